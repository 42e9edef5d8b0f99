/-
  PRINTED BY PROGRAM: for each function its condition (vc), and that this suffices (ok).
-/
import Derived.Test.YteacalmdpoblpaaGreatQCodecBaseGT
namespace Go.Proofs.YteacalmdpoblpaaGreat
open Go.RowKit
set_option linter.unusedVariables false
set_option maxHeartbeats 1000000
set_option maxRecDepth 10000
def codec_Patch.vc (c : Int) (d : Str) (f : Str) (g : Sl) (h : Sl) (r : Sl) (R : Value → World → Prop) (w : World) : Prop :=
∀ (x : World) (b : Nat) (a : Nat), New w b x → New w a x → b ≠ a → Chg [] w x →
CallK Tryz.prog 35 #[.agg #[.int .i64 c, .string (Bs d), .string (Bs f), Sl.v g, Sl.v h]] x [b, a] (fun v al => ∃ (ah : Bool), v = .bool ah ∧
((ah = false) →
∀ (y : World), Chg [a] al y →
R (.tuple #[.agg #[.int .i64 0, .string (Bs []), .string (Bs []), Sl.v Sl.nil, Sl.v Sl.nil], .int .i64 1]) y) ∧
((ah = true) →
CallK Tryz.prog 11 #[Sl.v r] al [b, a] (fun v am => ∃ (s : Int) (o : Int) (t : Sl) (p : Int), v = .tuple #[.int .u64 s, .int .u64 o, Sl.v t, .int .i64 p] ∧
((p ≠ 0) →
∀ (z : World), Chg [a] am z →
R (.tuple #[.agg #[.int .i64 0, .string (Bs []), .string (Bs []), Sl.v Sl.nil, Sl.v Sl.nil], .int .i64 p]) z) ∧
((¬ (p ≠ 0)) →
CallK Tryz.prog 36 #[.agg #[.int .i64 c, .string (Bs d), .string (Bs f), Sl.v g, Sl.v h]] am [b, a] (fun v an => ∃ (ai : Int), v = .int .u64 ai ∧
((ai ≠ s) →
∀ (aa : World), Chg [a] an aa →
R (.tuple #[.agg #[.int .i64 0, .string (Bs []), .string (Bs []), Sl.v Sl.nil, Sl.v Sl.nil], .int .i64 12]) aa) ∧
((¬ (ai ≠ s)) →
CallK Tryz.prog 37 #[.agg #[.int .i64 c, .string (Bs d), .string (Bs f), Sl.v g, Sl.v h], Sl.v t] an [b, a] (fun v u => ∃ (j : Int) (k : Str) (l : Str) (m : Sl) (n : Sl) (a4 : Int) (q : Int), v = .tuple #[.agg #[.int .i64 j, .string (Bs k), .string (Bs l), Sl.v m, Sl.v n], .int .i64 a4, .int .i64 q] ∧
((q ≠ 0) →
∀ (ab : World) (i : Nat), New u i ab → Chg [a] u ab →
R (.tuple #[.agg #[.int .i64 0, .string (Bs []), .string (Bs []), Sl.v Sl.nil, Sl.v Sl.nil], .int .i64 q]) ab) ∧
((¬ (q ≠ 0)) →
∀ (ad : World) (i : Nat), New u i ad → Chg [] u ad →
CallK Tryz.prog 36 #[.agg #[.int .i64 j, .string (Bs k), .string (Bs l), Sl.v m, Sl.v n]] ad [a, i] (fun v aj => ∃ (ak : Int), v = .int .u64 ak ∧
((ak ≠ o) →
∀ (af : World), Chg [a] aj af →
R (.tuple #[.agg #[.int .i64 0, .string (Bs []), .string (Bs []), Sl.v Sl.nil, Sl.v Sl.nil], .int .i64 11]) af) ∧
((¬ (ak ≠ o)) →
∀ (ag : World), Chg [a] aj ag →
R (.tuple #[.agg #[.int .i64 j, .string (Bs k), .string (Bs l), Sl.v m, Sl.v n], .int .i64 0]) ag))))))))))
theorem codec_Patch.ok (c : Int) (d : Str) (f : Str) (g : Sl) (h : Sl) (r : Sl) {R : Value → World → Prop} {w : World} (ht0 : codec_Patch.vc c d f g h r R w) : Calls Tryz.prog 12 #[.agg #[.int .i64 c, .string (Bs d), .string (Bs f), Sl.v g, Sl.v h], Sl.v r] w (Ret R) := by
 refine enter [.agg #[.int .i64 c, .string (Bs d), .string (Bs f), Sl.v g, Sl.v h], Sl.v r] Tryz.func12 rfl Tryz.ntmps12 rfl ?_
 intro a0 a6
 unfold codec_Patch.vc at ht0
 refine wp_seq (wp_region_lit ?_)
 refine sq (opk_new (fun B => .pointer (some ⟨B, 0, none⟩)) a6 rfl (r_box (cs := [.int .i64 c, .string (Bs d), .string (Bs f), Sl.v g, Sl.v h]) (a6.get rfl) rfl) fun a5 w4 b cg ch a8 ci _ => ?_)
 have cj : New w b w4 := ch
 have a9 : Chg [] w w4 := cg
 refine sq (opk_new (fun B => .pointer (some ⟨B, 0, none⟩)) ci rfl (r_alloc (cs := [.int .i64 0, .string (Bs []), .string (Bs []), Sl.v Sl.nil, Sl.v Sl.nil]) ti_39 rfl) fun dD x a aA ba ck cl _ => ?_)
 have ao : b ≠ a := Nat.ne_of_lt (Nat.lt_of_lt_of_le a8.lt ba.ge)
 have cm := New.of a9 ba
 have bb := a8.ext aA
 have cn := a9.more aA
 have co := cj.up aA.size
 refine sqv cl rfl (r_assign rfl) fun _ cp => sq_end ?_
 have bd := cp.kp [(1, Sl.v r), (2, .pointer (some (⟨b, 0, none⟩ : Addr))), (4, .pointer (some (⟨a, 0, none⟩ : Addr)))] rfl
 refine then_normal (wp_seq (wp_seq (wp_region_lit ?_)))
 refine sqv bd rfl (r_loadN (cs := [.int .i64 c, .string (Bs d), .string (Bs f), Sl.v g, Sl.v h]) Tryz.underlying39 rfl ti_39 (bd.get rfl) (bb.part 0 _ rfl)) fun _ bf => ?_
 have cq := ht0 x b a co cm ao cn
 refine sq (opk_call bf rfl (r_call (args := #[.agg #[.int .i64 c, .string (Bs d), .string (Bs f), Sl.v g, Sl.v h]]) Tryz.func35 (by decide) rfl (map_arr (ml_cons (bf.get rfl) ml_nil)) rfl) cq fun dF dG al bg _ bh dH cr => ?_)
 obtain ⟨ah, rfl, bi⟩ := cr
 have bj := bb.kept bh (.head _)
 have aB := ck.kept bh (.tail _ (.head _))
 refine sqv bg rfl (r_not (bg.get rfl)) fun _ ct => sq_end ?_
 have ap := ct.kp [(1, Sl.v r), (2, .pointer (some (⟨b, 0, none⟩ : Addr))), (4, .pointer (some (⟨a, 0, none⟩ : Addr))), (14, .bool (!ah))] rfl
 refine then_normal ?_
 refine wp_cond_split (ap.get rfl) (fun hc => ?_) (fun hc => ?_)
 ·have cu := bi.1 (b_not_t hc)
  clear hc
  refine wp_seq (wp_region_lit ?_)
  refine sqv ap rfl (r_build (vs := #[]) (cells := #[.int .i64 0, .string (Bs []), .string (Bs []), Sl.v Sl.nil, Sl.v Sl.nil]) (map_arr2 ml2_nil) ti_39 Tryz.underlying39 pl_39 (by kernel_rfl)) fun _ aC => ?_
  refine sq (opk_store aC aB (r_store (vs := [.int .i64 0, .string (Bs []), .string (Bs []), Sl.v Sl.nil, Sl.v Sl.nil]) (aC.get rfl) (aC.get rfl) rfl ti_39 aB rfl (ones_all _ rfl)) fun dI y bk cv cx => ?_)
  have cy : Box y a 39 [.int .i64 0, .string (Bs []), .string (Bs []), Sl.v Sl.nil, Sl.v Sl.nil] := cv
  have dJ := bj.keep bk (by simpa using ao)
  have cz : Chg [a] al y := bk
  refine sqv cx rfl (r_assign rfl) fun _ cA => sq_end ?_
  have aD := cA.kp [(4, .pointer (some (⟨a, 0, none⟩ : Addr))), (5, .int .i64 1)] rfl
  refine then_normal ?_
  refine wp_ret ?_
  refine then_ret ?_
  have cB := cu y    cz
  exact res_all (vs := [.agg #[.int .i64 0, .string (Bs []), .string (Bs []), Sl.v Sl.nil, Sl.v Sl.nil], .int .i64 1]) rfl aD ⟨res_of_cell aD rfl cy Tryz.underlying39 rfl ti_39, res_of_tmp aD rfl, trivial⟩ cB
 ·have cC := bi.2 (b_not_f hc)
  clear hc
  refine wp_skip ?_
  refine then_normal (wp_seq (wp_region_lit ?_))
  refine sqv ap rfl (r_move (ap.get rfl)) fun _ bl => ?_
  refine sq (opk_call bl rfl (r_call (args := #[Sl.v r]) Tryz.func11 (by decide) rfl (map_arr (ml_cons (bl.get rfl) ml_nil)) rfl) cC fun dK dL am bm _ bn dM cD => ?_)
  obtain ⟨s, o, t, p, rfl, bo⟩ := cD
  have aF := bj.kept bn (.head _)
  have aG := aB.kept bn (.tail _ (.head _))
  refine sqv bm rfl (r_move (bm.get rfl)) fun _ bp => sqv bp rfl (r_extract (bp.get rfl) rfl) fun _ bq => sqv bq rfl (r_extract (bq.get rfl) rfl) fun _ br => sqv br rfl (r_extract (br.get rfl) rfl) fun _ bs => sqv bs rfl (r_extract (bs.get rfl) rfl) fun _ bt => sqv bt rfl (r_assign (bt.get rfl)) fun _ bu => sqv bu rfl (r_assign (bu.get rfl)) fun _ bv => sqv bv rfl (r_assign (bv.get rfl)) fun _ bx => ?_
  refine sqv bx rfl (r_assign (bx.get rfl)) fun _ cF => sq_end ?_
  have bz := cF.kp [(2, .pointer (some (⟨b, 0, none⟩ : Addr))), (4, .pointer (some (⟨a, 0, none⟩ : Addr))), (6, .int .u64 s), (7, .int .u64 o), (8, Sl.v t), (9, .int .i64 p)] rfl
  refine then_normal (wp_seq (wp_block (wp_seq (wp_region_lit ?_))))
  refine sqv bz rfl (r_move (bz.get rfl)) fun _ bA => sqv bA rfl (r_neq (bA.get rfl) rfl) fun _ bB => sqv bB rfl (r_assign (bB.get rfl)) fun _ cG => sq_end ?_
  have aq := cG.kp [(2, .pointer (some (⟨b, 0, none⟩ : Addr))), (4, .pointer (some (⟨a, 0, none⟩ : Addr))), (6, .int .u64 s), (7, .int .u64 o), (8, Sl.v t), (9, .int .i64 p), (23, .bool (decide (p ≠ 0)))] rfl
  refine then_normal ?_
  refine wp_cond_split (aq.get rfl) (fun hc => ?_) (fun hc => ?_)
  ·have cH := bo.1 (of_decide_eq_true hc)
   clear hc
   refine wp_seq (wp_region_lit ?_)
   refine sqv aq rfl (r_build (vs := #[]) (cells := #[.int .i64 0, .string (Bs []), .string (Bs []), Sl.v Sl.nil, Sl.v Sl.nil]) (map_arr2 ml2_nil) ti_39 Tryz.underlying39 pl_39 (by kernel_rfl)) fun _ bC => sqv bC rfl (r_move (bC.get rfl)) fun _ aH => ?_
   refine sq (opk_store aH aG (r_store (vs := [.int .i64 0, .string (Bs []), .string (Bs []), Sl.v Sl.nil, Sl.v Sl.nil]) (aH.get rfl) (aH.get rfl) rfl ti_39 aG rfl (ones_all _ rfl)) fun dN z bD cI bF => ?_)
   have cJ : Box z a 39 [.int .i64 0, .string (Bs []), .string (Bs []), Sl.v Sl.nil, Sl.v Sl.nil] := cI
   have dO := aF.keep bD (by simpa using ao)
   have cK : Chg [a] am z := bD
   refine sqv bF rfl (r_assign (bF.get rfl)) fun _ cL => sq_end ?_
   have aI := cL.kp [(4, .pointer (some (⟨a, 0, none⟩ : Addr))), (5, .int .i64 p)] rfl
   refine then_normal ?_
   refine wp_ret ?_
   refine block_ret ?_
   refine then_ret ?_
   have cM := cH z    cK
   exact res_all (vs := [.agg #[.int .i64 0, .string (Bs []), .string (Bs []), Sl.v Sl.nil, Sl.v Sl.nil], .int .i64 p]) rfl aI ⟨res_of_cell aI rfl cJ Tryz.underlying39 rfl ti_39, res_of_tmp aI rfl, trivial⟩ cM
  ·have cN := bo.2 (of_decide_eq_false hc)
   clear hc
   refine wp_seq (wp_region_lit ?_)
   refine sqv aq rfl (r_loadN (cs := [.int .i64 c, .string (Bs d), .string (Bs f), Sl.v g, Sl.v h]) Tryz.underlying39 rfl ti_39 (aq.get rfl) (aF.part 0 _ rfl)) fun _ bG => ?_
   refine sq (opk_call bG rfl (r_call (args := #[.agg #[.int .i64 c, .string (Bs d), .string (Bs f), Sl.v g, Sl.v h]]) Tryz.func36 (by decide) rfl (map_arr (ml_cons (bG.get rfl) ml_nil)) rfl) cN fun dP dQ an bH _ bI dR cO => ?_)
   obtain ⟨ai, rfl, bJ⟩ := cO
   have aJ := aF.kept bI (.head _)
   have aK := aG.kept bI (.tail _ (.head _))
   refine sqv bH rfl (r_move (bH.get rfl)) fun _ aL => sqv aL rfl (r_neq (aL.get rfl) (aL.get rfl)) fun _ bK => sqv bK rfl (r_assign (bK.get rfl)) fun _ cP => sq_end ?_
   have ar := cP.kp [(2, .pointer (some (⟨b, 0, none⟩ : Addr))), (4, .pointer (some (⟨a, 0, none⟩ : Addr))), (7, .int .u64 o), (8, Sl.v t), (28, .bool (decide (ai ≠ s)))] rfl
   refine then_normal ?_
   refine wp_cond_split (ar.get rfl) (fun hc => ?_) (fun hc => ?_)
   ·have cQ := bJ.1 (of_decide_eq_true hc)
    clear hc
    refine wp_seq (wp_region_lit ?_)
    refine sqv ar rfl (r_build (vs := #[]) (cells := #[.int .i64 0, .string (Bs []), .string (Bs []), Sl.v Sl.nil, Sl.v Sl.nil]) (map_arr2 ml2_nil) ti_39 Tryz.underlying39 pl_39 (by kernel_rfl)) fun _ aM => ?_
    refine sq (opk_store aM aK (r_store (vs := [.int .i64 0, .string (Bs []), .string (Bs []), Sl.v Sl.nil, Sl.v Sl.nil]) (aM.get rfl) (aM.get rfl) rfl ti_39 aK rfl (ones_all _ rfl)) fun dS aa bL cR cS => ?_)
    have cT : Box aa a 39 [.int .i64 0, .string (Bs []), .string (Bs []), Sl.v Sl.nil, Sl.v Sl.nil] := cR
    have dT := aJ.keep bL (by simpa using ao)
    have cU : Chg [a] an aa := bL
    refine sqv cS rfl (r_assign rfl) fun _ cX => sq_end ?_
    have aN := cX.kp [(4, .pointer (some (⟨a, 0, none⟩ : Addr))), (5, .int .i64 12)] rfl
    refine then_normal ?_
    refine wp_ret ?_
    refine block_ret ?_
    refine then_ret ?_
    have cY := cQ aa    cU
    exact res_all (vs := [.agg #[.int .i64 0, .string (Bs []), .string (Bs []), Sl.v Sl.nil, Sl.v Sl.nil], .int .i64 12]) rfl aN ⟨res_of_cell aN rfl cT Tryz.underlying39 rfl ti_39, res_of_tmp aN rfl, trivial⟩ cY
   ·have cZ := bJ.2 (of_decide_eq_false hc)
    clear hc
    refine wp_skip ?_
    refine block_normal ?_
    refine then_normal (wp_seq (wp_region_lit ?_))
    refine sqv ar rfl (r_loadN (cs := [.int .i64 c, .string (Bs d), .string (Bs f), Sl.v g, Sl.v h]) Tryz.underlying39 rfl ti_39 (ar.get rfl) (aJ.part 0 _ rfl)) fun _ bM => sqv bM rfl (r_move (bM.get rfl)) fun _ aO => ?_
    refine sq (opk_call aO rfl (r_call (args := #[.agg #[.int .i64 c, .string (Bs d), .string (Bs f), Sl.v g, Sl.v h], Sl.v t]) Tryz.func37 (by decide) rfl (map_arr (ml_cons (aO.get rfl) (ml_cons (aO.get rfl) ml_nil))) rfl) cZ fun dU dV u bN _ bO dX c0 => ?_)
    obtain ⟨j, k, l, m, n, a4, q, rfl, bP⟩ := c0
    have bQ := aJ.kept bO (.head _)
    have bR := aK.kept bO (.tail _ (.head _))
    refine sqv bN rfl (r_move (bN.get rfl)) fun _ bS => sqv bS rfl (r_extract (bS.get rfl) rfl) fun _ bT => sqv bT rfl (r_extract (bT.get rfl) rfl) fun _ bU => sqv bU rfl (r_extract (bU.get rfl) rfl) fun _ c1 => ?_
    refine sq (opk_new (fun B => .pointer (some ⟨B, 0, none⟩)) c1 rfl (r_alloc (cs := [.int .i64 0, .string (Bs []), .string (Bs []), Sl.v Sl.nil, Sl.v Sl.nil]) ti_39 rfl) fun dY bV i aP aQ bX aR _ => ?_)
    have c2 : b ≠ i := Nat.ne_of_lt (Nat.lt_of_lt_of_le bQ.lt aQ.ge)
    have au : a ≠ i := Nat.ne_of_lt (Nat.lt_of_lt_of_le bR.lt aQ.ge)
    have bY : New u i bV := aQ
    have c3 := bQ.ext aP
    have c4 := bR.ext aP
    have c5 : Chg [] u bV := aP
    refine sq (opk_store aR bX (r_store (vs := [.int .i64 j, .string (Bs k), .string (Bs l), Sl.v m, Sl.v n]) (aR.get rfl) (aR.get rfl) rfl ti_39 bX rfl (ones_all _ rfl)) fun dZ ad av c6 bZ => ?_)
    have aS : Box ad i 39 [.int .i64 j, .string (Bs k), .string (Bs l), Sl.v m, Sl.v n] := c6
    have d0 := c3.keep av (by simpa using c2)
    have aT := c4.keep av (by simpa using au)
    have b0 := c5.storeNew bY av
    have b1 := bY.up av.size
    refine sqv bZ rfl (r_assign (bZ.get rfl)) fun _ b2 => sqv b2 rfl (r_assign (b2.get rfl)) fun _ c7 => sq_end ?_
    have b3 := c7.kp [(4, .pointer (some (⟨a, 0, none⟩ : Addr))), (7, .int .u64 o), (9, .int .i64 q), (10, .pointer (some (⟨i, 0, none⟩ : Addr)))] rfl
    refine then_normal (wp_seq (wp_block (wp_seq (wp_region_lit ?_))))
    refine sqv b3 rfl (r_move (b3.get rfl)) fun _ b4 => sqv b4 rfl (r_neq (b4.get rfl) rfl) fun _ b5 => sqv b5 rfl (r_assign (b5.get rfl)) fun _ c8 => sq_end ?_
    have ax := c8.kp [(4, .pointer (some (⟨a, 0, none⟩ : Addr))), (7, .int .u64 o), (9, .int .i64 q), (10, .pointer (some (⟨i, 0, none⟩ : Addr))), (41, .bool (decide (q ≠ 0)))] rfl
    refine then_normal ?_
    refine wp_cond_split (ax.get rfl) (fun hc => ?_) (fun hc => ?_)
    ·have c9 := bP.1 (of_decide_eq_true hc)
     clear hc
     refine wp_seq (wp_region_lit ?_)
     refine sqv ax rfl (r_build (vs := #[]) (cells := #[.int .i64 0, .string (Bs []), .string (Bs []), Sl.v Sl.nil, Sl.v Sl.nil]) (map_arr2 ml2_nil) ti_39 Tryz.underlying39 pl_39 (by kernel_rfl)) fun _ b6 => sqv b6 rfl (r_move (b6.get rfl)) fun _ aU => ?_
     refine sq (opk_store aU aT (r_store (vs := [.int .i64 0, .string (Bs []), .string (Bs []), Sl.v Sl.nil, Sl.v Sl.nil]) (aU.get rfl) (aU.get rfl) rfl ti_39 aT rfl (ones_all _ rfl)) fun d1 ab aV da b7 => ?_)
     have db : Box ab a 39 [.int .i64 0, .string (Bs []), .string (Bs []), Sl.v Sl.nil, Sl.v Sl.nil] := da
     have d2 := aS.keep aV (by simpa using au.symm)
     have dc := b0.storeOld aV
     have dd := b1.up aV.size
     refine sqv b7 rfl (r_assign (b7.get rfl)) fun _ df => sq_end ?_
     have aX := df.kp [(4, .pointer (some (⟨a, 0, none⟩ : Addr))), (5, .int .i64 q)] rfl
     refine then_normal ?_
     refine wp_ret ?_
     refine block_ret ?_
     refine then_ret ?_
     have dg := c9 ab i dd  dc
     exact res_all (vs := [.agg #[.int .i64 0, .string (Bs []), .string (Bs []), Sl.v Sl.nil, Sl.v Sl.nil], .int .i64 q]) rfl aX ⟨res_of_cell aX rfl db Tryz.underlying39 rfl ti_39, res_of_tmp aX rfl, trivial⟩ dg
    ·have dh := bP.2 (of_decide_eq_false hc)
     clear hc
     refine wp_seq (wp_region_lit ?_)
     refine sqv ax rfl (r_loadN (cs := [.int .i64 j, .string (Bs k), .string (Bs l), Sl.v m, Sl.v n]) Tryz.underlying39 rfl ti_39 (ax.get rfl) (aS.part 0 _ rfl)) fun _ b8 => ?_
     have di := dh ad i b1  b0
     refine sq (opk_call b8 rfl (r_call (args := #[.agg #[.int .i64 j, .string (Bs k), .string (Bs l), Sl.v m, Sl.v n]]) Tryz.func36 (by decide) rfl (map_arr (ml_cons (b8.get rfl) ml_nil)) rfl) di fun d3 d4 aj b9 _ ca d5 dj => ?_)
     obtain ⟨ak, rfl, cb⟩ := dj
     have ay := aT.kept ca (.head _)
     have aY := aS.kept ca (.tail _ (.head _))
     refine sqv b9 rfl (r_move (b9.get rfl)) fun _ aZ => sqv aZ rfl (r_neq (aZ.get rfl) (aZ.get rfl)) fun _ cc => sqv cc rfl (r_assign (cc.get rfl)) fun _ dk => sq_end ?_
     have az := dk.kp [(4, .pointer (some (⟨a, 0, none⟩ : Addr))), (10, .pointer (some (⟨i, 0, none⟩ : Addr))), (46, .bool (decide (ak ≠ o)))] rfl
     refine then_normal ?_
     refine wp_cond_split (az.get rfl) (fun hc => ?_) (fun hc => ?_)
     ·have dl := cb.1 (of_decide_eq_true hc)
      clear hc
      refine wp_seq (wp_region_lit ?_)
      refine sqv az rfl (r_build (vs := #[]) (cells := #[.int .i64 0, .string (Bs []), .string (Bs []), Sl.v Sl.nil, Sl.v Sl.nil]) (map_arr2 ml2_nil) ti_39 Tryz.underlying39 pl_39 (by kernel_rfl)) fun _ hA200 => ?_
      refine sq (opk_store hA200 ay (r_store (vs := [.int .i64 0, .string (Bs []), .string (Bs []), Sl.v Sl.nil, Sl.v Sl.nil]) (hA200.get rfl) (hA200.get rfl) rfl ti_39 ay rfl (ones_all _ rfl)) fun d6 af cd dm dn => ?_)
      have dp : Box af a 39 [.int .i64 0, .string (Bs []), .string (Bs []), Sl.v Sl.nil, Sl.v Sl.nil] := dm
      have d7 := aY.keep cd (by simpa using au.symm)
      have dq : Chg [a] aj af := cd
      refine sqv dn rfl (r_assign rfl) fun _ dr => sq_end ?_
      have a1 := dr.kp [(4, .pointer (some (⟨a, 0, none⟩ : Addr))), (5, .int .i64 11)] rfl
      refine then_normal ?_
      refine wp_ret ?_
      refine block_ret ?_
      refine then_ret ?_
      have ds := dl af    dq
      exact res_all (vs := [.agg #[.int .i64 0, .string (Bs []), .string (Bs []), Sl.v Sl.nil, Sl.v Sl.nil], .int .i64 11]) rfl a1 ⟨res_of_cell a1 rfl dp Tryz.underlying39 rfl ti_39, res_of_tmp a1 rfl, trivial⟩ ds
     ·have dt := cb.2 (of_decide_eq_false hc)
      clear hc
      refine wp_skip ?_
      refine block_normal ?_
      refine then_normal (wp_seq (wp_region_lit ?_))
      refine sqv az rfl (r_loadN (cs := [.int .i64 j, .string (Bs k), .string (Bs l), Sl.v m, Sl.v n]) Tryz.underlying39 rfl ti_39 (az.get rfl) (aY.part 0 _ rfl)) fun _ a2 => ?_
      refine sq (opk_store a2 ay (r_store (vs := [.int .i64 j, .string (Bs k), .string (Bs l), Sl.v m, Sl.v n]) (a2.get rfl) (a2.get rfl) rfl ti_39 ay rfl (ones_all _ rfl)) fun d8 ag cf du dv => ?_)
      have dx : Box ag a 39 [.int .i64 j, .string (Bs k), .string (Bs l), Sl.v m, Sl.v n] := du
      have d9 := aY.keep cf (by simpa using au.symm)
      have dy : Chg [a] aj ag := cf
      refine sqv dv rfl (r_assign rfl) fun _ dz => sq_end ?_
      have a3 := dz.kp [(4, .pointer (some (⟨a, 0, none⟩ : Addr))), (5, .int .i64 0)] rfl
      refine then_normal ?_
      refine wp_ret ?_
      have dA := dt ag    dy
      exact res_all (vs := [.agg #[.int .i64 j, .string (Bs k), .string (Bs l), Sl.v m, Sl.v n], .int .i64 0]) rfl a3 ⟨res_of_cell a3 rfl dx Tryz.underlying39 rfl ti_39, res_of_tmp a3 rfl, trivial⟩ dA
def codec_texts.vc (b : Int) (q : Int) (r : Int) (s : Int) (u : Int) (d : Str) (f : Str) (R : Value → World → Prop) (w : World) : Prop :=
(((b = 1) ∨ (b = 4)) →
∀ (m : World) (c : Nat) (i : Nat), New w c m → New w i m → c ≠ i → Chg [] w m →
∀ (_ : Box m i 9 [.string (Bs d), .string (Bs f)]),
R (Sl.v (Sl.mk (some ⟨i, 0, none⟩) 2 2)) m) ∧
(((¬ (b = 1)) ∧ (¬ (b = 4))) →
((b = 5) →
∀ (n : World) (c : Nat) (j : Nat), New w c n → New w j n → c ≠ j → Chg [] w n →
∀ (_ : Box n j 9 [.string (Bs d)]),
R (Sl.v (Sl.mk (some ⟨j, 0, none⟩) 1 1)) n) ∧
((¬ (b = 5)) →
((b = 6) →
∀ (o : World) (c : Nat) (k : Nat), New w c o → New w k o → c ≠ k → Chg [] w o →
∀ (_ : Box o k 9 [.string (Bs f)]),
R (Sl.v (Sl.mk (some ⟨k, 0, none⟩) 1 1)) o) ∧
((¬ (b = 6)) →
∀ (l : World) (c : Nat), New w c l → Chg [] w l →
R (Sl.v Sl.nil) l)))
theorem codec_texts.ok (b : Int) (q : Int) (r : Int) (s : Int) (u : Int) (d : Str) (f : Str) {R : Value → World → Prop} {w : World} (ad : codec_texts.vc b q r s u d f R w) : Calls Tryz.prog 25 #[.agg #[.int .i64 b, .int .i64 q, .int .i64 r, .int .i64 s, .int .i64 u, .string (Bs d), .string (Bs f)]] w (Ret R) := by
 refine enter [.agg #[.int .i64 b, .int .i64 q, .int .i64 r, .int .i64 s, .int .i64 u, .string (Bs d), .string (Bs f)]] Tryz.func25 rfl Tryz.ntmps25 rfl ?_
 intro a0 aj
 unfold codec_texts.vc at ad
 refine wp_seq (wp_region_lit ?_)
 refine sq (opk_new (fun B => .pointer (some ⟨B, 0, none⟩)) aj rfl (r_box (cs := [.int .i64 b, .int .i64 q, .int .i64 r, .int .i64 s, .int .i64 u, .string (Bs d), .string (Bs f)]) (aj.get rfl) rfl) fun a4 l c aO aP g aQ _ => ?_)
 have z : New w c l := aP
 have p : Chg [] w l := aO
 refine sqv aQ rfl (r_assign rfl) fun _ aR => sq_end ?_
 have ak := aR.kp [(1, .pointer (some (⟨c, 0, none⟩ : Addr)))] rfl
 refine then_normal (wp_seq (wp_seq (wp_region_lit ?_)))
 refine sqv ak rfl (r_fieldAddr (ak.get rfl) Tryz.underlying59 rfl ti_3 (by decide)) fun _ al => sqv al rfl (r_load1 tU3 rfl (al.get rfl) (g.cell 0 _ rfl)) fun _ aS => sq_end ?_
 have am := aS.kp [(1, .pointer (some (⟨c, 0, none⟩ : Addr))), (4, .int .i64 b)] rfl
 refine then_normal (wp_block (wp_seq (wp_seq (wp_region_lit ?_))))
 refine sqv am rfl (r_eql (am.get rfl) rfl) fun _ an => sqv an rfl (r_assign (an.get rfl)) fun _ aT => sq_end ?_
 have aa := aT.kp [(1, .pointer (some (⟨c, 0, none⟩ : Addr))), (4, .int .i64 b), (5, .bool (decide (b = 1)))] rfl
 refine then_normal ?_
 refine wp_meet (fun a wq => Ag 23 a [(1, .pointer (some (⟨c, 0, none⟩ : Addr))), (4, .int .i64 b), (5, .bool ((decide (b = 1)) || (decide (b = 4))))] ∧ wq = l) ?_ ?_
 ·refine wp_cond_split (aa.get rfl) (fun hc => ?_) (fun hc => ?_)
  ·refine wp_skip ?_
   have aU := aa.say (t := 5) rfl (.bool ((decide (b = 1)) || (decide (b = 4)))) (by rw [hc]; rfl)
   exact then_normal ⟨aU.kp [(1, .pointer (some (⟨c, 0, none⟩ : Addr))), (4, .int .i64 b), (5, .bool ((decide (b = 1)) || (decide (b = 4))))] rfl, rfl⟩
  ·refine wp_region_lit ?_
   refine sqv aa rfl (r_eql (aa.get rfl) rfl) fun _ ao => sqv ao rfl (r_assign (ao.get rfl)) fun _ aV => sq_end ?_
   have aX := aV.kp [(1, .pointer (some (⟨c, 0, none⟩ : Addr))), (4, .int .i64 b), (5, .bool (decide (b = 4)))] rfl
   have aY := aX.say (t := 5) rfl (.bool ((decide (b = 1)) || (decide (b = 4)))) (by rw [hc]; rfl)
   exact then_normal ⟨aY.kp [(1, .pointer (some (⟨c, 0, none⟩ : Addr))), (4, .int .i64 b), (5, .bool ((decide (b = 1)) || (decide (b = 4))))] rfl, rfl⟩
 ·rintro bB w_ ⟨x, hw_⟩
  have hw_ : l = w_ := hw_.symm
  subst hw_
  refine then_normal ?_
  refine wp_cond_split (x.get rfl) (fun hc => ?_) (fun hc => ?_)
  ·have aZ := ad.1 ((b_or_t hc).imp (fun h => (of_decide_eq_true h)) (fun h => (of_decide_eq_true h)))
   clear hc
   refine wp_seq (wp_region_lit ?_)
   refine sqv x rfl (r_fieldAddr (x.get rfl) Tryz.underlying59 rfl ti_9 (by decide)) fun _ ap => sqv ap rfl (r_load1 tU9 rfl (ap.get rfl) (g.cell 5 _ rfl)) fun _ aq => sqv aq rfl (r_fieldAddr (aq.get rfl) Tryz.underlying59 rfl ti_9 (by decide)) fun _ ar => sqv ar rfl (r_load1 tU9 rfl (ar.get rfl) (g.cell 6 _ rfl)) fun _ af => ?_
   refine sq (opk_new (fun B => .slice (some ⟨B, 0, none⟩) 2 2) af rfl (r_buildSlice (vs := #[(0, .string (Bs d)), (1, .string (Bs f))]) (cs := [.string (Bs d), .string (Bs f)]) (map_arr2 (ml2_cons (af.get rfl) (ml2_cons (af.get rfl) (ml2_nil)))) tU61 ti_9 rfl rfl (by kernel_rfl)) fun bC m i ag au hB38 av _ => ?_)
   have a1 : c ≠ i := Nat.ne_of_lt (Nat.lt_of_lt_of_le g.lt au.ge)
   have a2 := New.of p au
   have bD := g.ext ag
   have a3 := p.more ag
   have hN43 := z.up ag.size
   refine sqv av rfl (r_assign (av.get rfl)) fun _ a5 => sq_end ?_
   have ax := a5.kp [(2, Sl.v (Sl.mk (some ⟨i, 0, none⟩) 2 2))] rfl
   refine then_normal ?_
   refine wp_ret ?_
   refine block_ret ?_
   refine then_ret ?_
   have a6 := aZ m c i hN43 a2 a1 a3
   have a7 := a6 hB38
   exact res_all (vs := [Sl.v (Sl.mk (some ⟨i, 0, none⟩) 2 2)]) rfl ax ⟨res_of_tmp ax rfl, trivial⟩ a7
  ·have ay := ad.2 ⟨(of_decide_eq_false (b_or_f hc).1), (of_decide_eq_false (b_or_f hc).2)⟩
   clear hc
   refine wp_seq (wp_region_lit ?_)
   refine sqv x rfl (r_eql (x.get rfl) rfl) fun _ az => sqv az rfl (r_assign (az.get rfl)) fun _ a8 => sq_end ?_
   have y := a8.kp [(1, .pointer (some (⟨c, 0, none⟩ : Addr))), (4, .int .i64 b), (13, .bool (decide (b = 5)))] rfl
   refine then_normal ?_
   refine wp_cond_split (y.get rfl) (fun hc => ?_) (fun hc => ?_)
   ·have a9 := ay.1 (of_decide_eq_true hc)
    clear hc
    refine wp_seq (wp_region_lit ?_)
    refine sqv y rfl (r_fieldAddr (y.get rfl) Tryz.underlying59 rfl ti_9 (by decide)) fun _ aA => sqv aA rfl (r_load1 tU9 rfl (aA.get rfl) (g.cell 5 _ rfl)) fun _ aB => ?_
    refine sq (opk_new (fun B => .slice (some ⟨B, 0, none⟩) 1 1) aB rfl (r_buildSlice (vs := #[(0, .string (Bs d))]) (cs := [.string (Bs d)]) (map_arr2 (ml2_cons (aB.get rfl) (ml2_nil))) tU61 ti_9 rfl rfl (by kernel_rfl)) fun bF n j ah aC ba aD _ => ?_)
    have bb : c ≠ j := Nat.ne_of_lt (Nat.lt_of_lt_of_le g.lt aC.ge)
    have bd := New.of p aC
    have bG := g.ext ah
    have bf := p.more ah
    have bg := z.up ah.size
    refine sqv aD rfl (r_assign (aD.get rfl)) fun _ bh => sq_end ?_
    have aF := bh.kp [(2, Sl.v (Sl.mk (some ⟨j, 0, none⟩) 1 1))] rfl
    refine then_normal ?_
    refine wp_ret ?_
    refine block_ret ?_
    refine then_ret ?_
    have bi := a9 n c j bg bd bb bf
    have bj := bi ba
    exact res_all (vs := [Sl.v (Sl.mk (some ⟨j, 0, none⟩) 1 1)]) rfl aF ⟨res_of_tmp aF rfl, trivial⟩ bj
   ·have aG := ay.2 (of_decide_eq_false hc)
    clear hc
    refine wp_seq (wp_region_lit ?_)
    refine sqv y rfl (r_eql (y.get rfl) rfl) fun _ aH => sqv aH rfl (r_assign (aH.get rfl)) fun _ bk => sq_end ?_
    have ab := bk.kp [(1, .pointer (some (⟨c, 0, none⟩ : Addr))), (18, .bool (decide (b = 6)))] rfl
    refine then_normal ?_
    refine wp_cond_split (ab.get rfl) (fun hc => ?_) (fun hc => ?_)
    ·have bl := aG.1 (of_decide_eq_true hc)
     clear hc
     refine wp_seq (wp_region_lit ?_)
     refine sqv ab rfl (r_fieldAddr (ab.get rfl) Tryz.underlying59 rfl ti_9 (by decide)) fun _ aI => sqv aI rfl (r_load1 tU9 rfl (aI.get rfl) (g.cell 6 _ rfl)) fun _ aJ => ?_
     refine sq (opk_new (fun B => .slice (some ⟨B, 0, none⟩) 1 1) aJ rfl (r_buildSlice (vs := #[(0, .string (Bs f))]) (cs := [.string (Bs f)]) (map_arr2 (ml2_cons (aJ.get rfl) (ml2_nil))) tU61 ti_9 rfl rfl (by kernel_rfl)) fun bH o k ai aK bm aL _ => ?_)
     have bn : c ≠ k := Nat.ne_of_lt (Nat.lt_of_lt_of_le g.lt aK.ge)
     have bo := New.of p aK
     have bI := g.ext ai
     have bp := p.more ai
     have bq := z.up ai.size
     refine sqv aL rfl (r_assign (aL.get rfl)) fun _ br => sq_end ?_
     have aM := br.kp [(2, Sl.v (Sl.mk (some ⟨k, 0, none⟩) 1 1))] rfl
     refine then_normal ?_
     refine wp_ret ?_
     refine block_ret ?_
     refine then_ret ?_
     have bs := bl o c k bq bo bn bp
     have bt := bs bm
     exact res_all (vs := [Sl.v (Sl.mk (some ⟨k, 0, none⟩) 1 1)]) rfl aM ⟨res_of_tmp aM rfl, trivial⟩ bt
    ·have bu := aG.2 (of_decide_eq_false hc)
     clear hc
     refine wp_skip ?_
     refine block_normal ?_
     refine then_normal (wp_seq (wp_region_lit ?_))
     refine sqv ab rfl (r_assign rfl) fun _ bv => sq_end ?_
     have aN := bv.kp [(2, Sl.v Sl.nil)] rfl
     refine then_normal ?_
     refine wp_ret ?_
     have bx := bu l c z  p
     exact res_all (vs := [Sl.v Sl.nil]) rfl aN ⟨res_of_tmp aN rfl, trivial⟩ bx
def codec_numbers.vc (b : Int) (m : Int) (c : Int) (d : Int) (i : Int) (n : Str) (o : Str) (R : Value → World → Prop) (w : World) : Prop :=
((b = 1) →
∀ (j : World) (a : Nat) (g : Nat), New w a j → New w g j → a ≠ g → Chg [] w j →
∀ (_ : Box j g 3 [.int .i64 c, .int .i64 d, .int .i64 i]),
R (Sl.v (Sl.mk (some ⟨g, 0, none⟩) 3 3)) j) ∧
((¬ (b = 1)) →
((b = 3) →
∀ (k : World) (a : Nat) (h : Nat), New w a k → New w h k → a ≠ h → Chg [] w k →
∀ (_ : Box k h 3 [.int .i64 c, .int .i64 d]),
R (Sl.v (Sl.mk (some ⟨h, 0, none⟩) 2 2)) k) ∧
((¬ (b = 3)) →
∀ (l : World) (a : Nat), New w a l → Chg [] w l →
R (Sl.v Sl.nil) l))
theorem codec_numbers.ok (b : Int) (m : Int) (c : Int) (d : Int) (i : Int) (n : Str) (o : Str) {R : Value → World → Prop} {w : World} (t : codec_numbers.vc b m c d i n o R w) : Calls Tryz.prog 29 #[.agg #[.int .i64 b, .int .i64 m, .int .i64 c, .int .i64 d, .int .i64 i, .string (Bs n), .string (Bs o)]] w (Ret R) := by
 refine enter [.agg #[.int .i64 b, .int .i64 m, .int .i64 c, .int .i64 d, .int .i64 i, .string (Bs n), .string (Bs o)]] Tryz.func29 rfl Tryz.ntmps29 rfl ?_
 intro a0 aa
 unfold codec_numbers.vc at t
 refine wp_seq (wp_region_lit ?_)
 refine sq (opk_new (fun B => .pointer (some ⟨B, 0, none⟩)) aa rfl (r_box (cs := [.int .i64 b, .int .i64 m, .int .i64 c, .int .i64 d, .int .i64 i, .string (Bs n), .string (Bs o)]) (aa.get rfl) rfl) fun a4 l a aB aC f aD _ => ?_)
 have u : New w a l := aC
 have p : Chg [] w l := aB
 refine sqv aD rfl (r_assign rfl) fun _ aF => sq_end ?_
 have ab := aF.kp [(1, .pointer (some (⟨a, 0, none⟩ : Addr)))] rfl
 refine then_normal (wp_seq (wp_seq (wp_region_lit ?_)))
 refine sqv ab rfl (r_fieldAddr (ab.get rfl) Tryz.underlying59 rfl ti_3 (by decide)) fun _ ad => sqv ad rfl (r_load1 tU3 rfl (ad.get rfl) (f.cell 0 _ rfl)) fun _ aG => sq_end ?_
 have af := aG.kp [(1, .pointer (some (⟨a, 0, none⟩ : Addr))), (4, .int .i64 b)] rfl
 refine then_normal (wp_block (wp_seq (wp_region_lit ?_)))
 refine sqv af rfl (r_eql (af.get rfl) rfl) fun _ ag => sqv ag rfl (r_assign (ag.get rfl)) fun _ aH => sq_end ?_
 have q := aH.kp [(1, .pointer (some (⟨a, 0, none⟩ : Addr))), (4, .int .i64 b), (5, .bool (decide (b = 1)))] rfl
 refine then_normal ?_
 refine wp_cond_split (q.get rfl) (fun hc => ?_) (fun hc => ?_)
 ·have aI := t.1 (of_decide_eq_true hc)
  clear hc
  refine wp_seq (wp_region_lit ?_)
  refine sqv q rfl (r_fieldAddr (q.get rfl) Tryz.underlying59 rfl ti_3 (by decide)) fun _ ah => sqv ah rfl (r_load1 tU3 rfl (ah.get rfl) (f.cell 2 _ rfl)) fun _ ai => sqv ai rfl (r_fieldAddr (ai.get rfl) Tryz.underlying59 rfl ti_3 (by decide)) fun _ aj => sqv aj rfl (r_load1 tU3 rfl (aj.get rfl) (f.cell 3 _ rfl)) fun _ ak => sqv ak rfl (r_fieldAddr (ak.get rfl) Tryz.underlying59 rfl ti_3 (by decide)) fun _ al => sqv al rfl (r_load1 tU3 rfl (al.get rfl) (f.cell 4 _ rfl)) fun _ r => ?_
  refine sq (opk_new (fun B => .slice (some ⟨B, 0, none⟩) 3 3) r rfl (r_buildSlice (vs := #[(0, .int .i64 c), (1, .int .i64 d), (2, .int .i64 i)]) (cs := [.int .i64 c, .int .i64 d, .int .i64 i]) (map_arr2 (ml2_cons (r.get rfl) (ml2_cons (r.get rfl) (ml2_cons (r.get rfl) (ml2_nil))))) tU44 ti_3 rfl rfl (by kernel_rfl)) fun a7 j g x am aJ an _ => ?_)
  have aK : a ≠ g := Nat.ne_of_lt (Nat.lt_of_lt_of_le f.lt am.ge)
  have aL := New.of p am
  have a8 := f.ext x
  have aM := p.more x
  have aN := u.up x.size
  refine sqv an rfl (r_assign (an.get rfl)) fun _ aO => sq_end ?_
  have ao := aO.kp [(2, Sl.v (Sl.mk (some ⟨g, 0, none⟩) 3 3))] rfl
  refine then_normal ?_
  refine wp_ret ?_
  refine block_ret ?_
  refine then_ret ?_
  have aP := aI j a g aN aL aK aM
  have aQ := aP aJ
  exact res_all (vs := [Sl.v (Sl.mk (some ⟨g, 0, none⟩) 3 3)]) rfl ao ⟨res_of_tmp ao rfl, trivial⟩ aQ
 ·have ap := t.2 (of_decide_eq_false hc)
  clear hc
  refine wp_seq (wp_region_lit ?_)
  refine sqv q rfl (r_eql (q.get rfl) rfl) fun _ aq => sqv aq rfl (r_assign (aq.get rfl)) fun _ aR => sq_end ?_
  have s := aR.kp [(1, .pointer (some (⟨a, 0, none⟩ : Addr))), (14, .bool (decide (b = 3)))] rfl
  refine then_normal ?_
  refine wp_cond_split (s.get rfl) (fun hc => ?_) (fun hc => ?_)
  ·have aS := ap.1 (of_decide_eq_true hc)
   clear hc
   refine wp_seq (wp_region_lit ?_)
   refine sqv s rfl (r_fieldAddr (s.get rfl) Tryz.underlying59 rfl ti_3 (by decide)) fun _ ar => sqv ar rfl (r_load1 tU3 rfl (ar.get rfl) (f.cell 2 _ rfl)) fun _ au => sqv au rfl (r_fieldAddr (au.get rfl) Tryz.underlying59 rfl ti_3 (by decide)) fun _ av => sqv av rfl (r_load1 tU3 rfl (av.get rfl) (f.cell 3 _ rfl)) fun _ y => ?_
   refine sq (opk_new (fun B => .slice (some ⟨B, 0, none⟩) 2 2) y rfl (r_buildSlice (vs := #[(0, .int .i64 c), (1, .int .i64 d)]) (cs := [.int .i64 c, .int .i64 d]) (map_arr2 (ml2_cons (y.get rfl) (ml2_cons (y.get rfl) (ml2_nil)))) tU44 ti_3 rfl rfl (by kernel_rfl)) fun a9 k h z ax aT ay _ => ?_)
   have aU : a ≠ h := Nat.ne_of_lt (Nat.lt_of_lt_of_le f.lt ax.ge)
   have aV := New.of p ax
   have ba := f.ext z
   have aX := p.more z
   have aY := u.up z.size
   refine sqv ay rfl (r_assign (ay.get rfl)) fun _ aZ => sq_end ?_
   have az := aZ.kp [(2, Sl.v (Sl.mk (some ⟨h, 0, none⟩) 2 2))] rfl
   refine then_normal ?_
   refine wp_ret ?_
   refine block_ret ?_
   refine then_ret ?_
   have ht63 := aS k a h aY aV aU aX
   have a1 := ht63 aT
   exact res_all (vs := [Sl.v (Sl.mk (some ⟨h, 0, none⟩) 2 2)]) rfl az ⟨res_of_tmp az rfl, trivial⟩ a1
  ·have a2 := ap.2 (of_decide_eq_false hc)
   clear hc
   refine wp_skip ?_
   refine block_normal ?_
   refine then_normal (wp_seq (wp_region_lit ?_))
   refine sqv s rfl (r_assign rfl) fun _ a3 => sq_end ?_
   have aA := a3.kp [(2, Sl.v Sl.nil)] rfl
   refine then_normal ?_
   refine wp_ret ?_
   have ht67 := a2 l a u  p
   exact res_all (vs := [Sl.v Sl.nil]) rfl aA ⟨res_of_tmp aA rfl, trivial⟩ ht67
def codec_sums.vc (i : Sl) (R : Value → World → Prop) (w : World) : Prop :=
CallK Tryz.prog 53 #[Sl.v i] w [] (fun v o => ∃ (c : Int), v = .int .u32 c ∧
∃ (k : Sl → Int → World → Prop) (l : Sl → Int → World → Nat),
k Sl.nil 0 o ∧
(∀ (d : Sl) (b : Int) (f : World), k d b f →
((b < 4) →
(I64 (8 * b)) ∧
((0 : Int) ≤ (8 * b) ∧ (8 * b) ≤ 32) ∧
∀ (g : World) (j : Nat), New f j g → Chg [] f g →
∀ (_ : Box g j 5 [.int .u8 (IntKind.u8.wrap (c / 2 ^ (8 * b).toNat))]),
RunK Tryz.prog (Builtin.append_ #[27, 27] 27 #[Sl.v d, Sl.v (Sl.mk (some ⟨j, 0, none⟩) 1 1)]) g [] (fun v m => ∃ (h : Sl), v = Sl.v h ∧
(I64 (b + 1)) ∧
k h (b + 1) m ∧ l h (b + 1) m < l d b f)) ∧
((¬ (b < 4)) →
R (Sl.v d) f)))
theorem codec_sums.ok (i : Sl) {R : Value → World → Prop} {w : World} (r : codec_sums.vc i R w) : Calls Tryz.prog 30 #[Sl.v i] w (Ret R) := by
 refine enter [Sl.v i] Tryz.func30 rfl Tryz.ntmps30 rfl ?_
 intro a0 ar
 unfold codec_sums.vc at r
 refine wp_seq (wp_region_lit ?_)
 refine sqv ar rfl (r_assign rfl) fun _ au => sq_end ?_
 have t := au.kp [(0, Sl.v i)] rfl
 refine then_normal (wp_seq (wp_region_lit ?_))
 refine sqv t rfl (r_move (t.get rfl)) fun _ u => ?_
 refine sq (opk_call u rfl (r_call (args := #[Sl.v i]) Tryz.func53 (by decide) rfl (map_arr (ml_cons (u.get rfl) ml_nil)) rfl) r fun a6 a7 o x _ a8 a9 av => ?_)
 obtain ⟨c, rfl, ax⟩ := av
 refine sqv x rfl (r_assign (x.get rfl)) fun _ ay => sq_end ?_
 have az := ay.kp [(3, .int .u32 c)] rfl
 refine then_normal (wp_seq (wp_region_lit ?_))
 refine sqv az rfl (r_assign rfl) fun _ aA => sq_end ?_
 have aB := aA.kp [(3, .int .u32 c), (4, Sl.v Sl.nil)] rfl
 refine then_normal (wp_seq (wp_seq (wp_region_lit ?_)))
 refine sqv aB rfl (r_move rfl) fun _ aC => sq_end ?_
 have aD := aC.kp [(3, .int .u32 c), (4, Sl.v Sl.nil), (8, .int .i64 0)] rfl
 refine then_normal (wp_block ?_)
 obtain ⟨k, l, aF, aG⟩ := ax
 refine wp_loop_st (σ := Sl × Int × World) (fun s a w => Ag 21 a [(3, .int .u32 c), (4, Sl.v s.1), (8, .int .i64 s.2.1)] ∧ w = s.2.2 ∧ k s.1 s.2.1 s.2.2) (fun s => l s.1 s.2.1 s.2.2) (Sl.nil, 0, o) ⟨aD.kp [(3, .int .u32 c), (4, Sl.v Sl.nil), (8, .int .i64 0)] rfl, rfl, aF⟩ ?_
 rintro ⟨d, b, f⟩ ba w_ ⟨y, hw_, aH⟩
 have hw_ : f = w_ := hw_.symm
 subst hw_
 have z := aG d b _ aH
 refine wp_seq (wp_region_lit ?_)
 refine sqv y rfl (r_lss (y.get rfl) rfl) fun _ aI => sq_end ?_
 have n := aI.kp [(3, .int .u32 c), (4, Sl.v d), (8, .int .i64 b), (9, .bool (decide (b < 4)))] rfl
 refine then_normal (wp_seq ?_)
 refine wp_cond_split (n.get rfl) (fun hc => ?_) (fun hc => ?_)
 ·have aJ := z.1 (of_decide_eq_true hc)
  clear hc
  refine wp_skip ?_
  refine then_normal (wp_seq (wp_block (wp_seq (wp_region_lit ?_))))
  refine sqv n rfl (r_move (n.get rfl)) fun _ aa => sqv aa rfl (r_assign (aa.get rfl)) fun _ aK => sq_end ?_
  have ab := aK.kp [(3, .int .u32 c), (4, Sl.v d), (5, .int .i64 b), (8, .int .i64 b)] rfl
  refine then_normal (wp_region_lit ?_)
  refine sqv ab rfl (r_move (ab.get rfl)) fun _ ad => sqv ad rfl (r_move (ad.get rfl)) fun _ af => sqv af rfl (r_move (af.get rfl)) fun _ ag => ?_
  obtain ⟨aL, aM⟩ := aJ
  refine sqv ag rfl (r_mulI rfl (ag.get rfl) aL) fun _ p => ?_
  obtain ⟨ah, aN⟩ := aM
  refine sqv p rfl (r_shr (p.get rfl) (p.get rfl) ah.1 ah.2) fun _ ai => sqv ai rfl (r_conv (ai.get rfl) rfl tU5) fun _ aj => ?_
  refine sq (opk_new (fun B => .slice (some ⟨B, 0, none⟩) 1 1) aj rfl (r_buildSlice (vs := #[(0, .int .u8 (IntKind.u8.wrap (c / 2 ^ (8 * b).toNat)))]) (cs := [.int .u8 (IntKind.u8.wrap (c / 2 ^ (8 * b).toNat))]) (map_arr2 (ml2_cons (aj.get rfl) (ml2_nil))) tU27 ti_5 rfl rfl (by kernel_rfl)) fun bb g j aO aP aQ q _ => ?_)
  have aR : New f j g := aP
  have aS : Chg [] f g := aO
  have aT := aN g j aR  aS
  have aU := aT aQ
  refine sq (opk_run q rfl (fun _ _ hr => r_append (q.get rfl) (q.get rfl) hr) aU fun bd bf m ak _ bg bh aV => ?_)
  obtain ⟨h, rfl, aX⟩ := aV
  refine sqv ak rfl (r_assign (ak.get rfl)) fun _ aY => sq_end ?_
  have al := aY.kp [(3, .int .u32 c), (4, Sl.v h), (8, .int .i64 b)] rfl
  refine block_normal ?_
  refine then_normal (wp_region_lit ?_)
  obtain ⟨aZ, am⟩ := aX
  refine sqv al rfl (r_addI (al.get rfl) rfl aZ) fun _ an => sqv an rfl (r_move (an.get rfl)) fun _ hA112 => sq_end ?_
  have a1 := hA112.kp [(3, .int .u32 c), (4, Sl.v h), (8, .int .i64 (b + 1))] rfl
  have a2 := a1.kp [(3, .int .u32 c), (4, Sl.v h), (8, .int .i64 (b + 1))] rfl
  exact then_normal ⟨(h, b + 1, m), ⟨a2, rfl, am.1⟩, am.2⟩
 ·have a3 := z.2 (of_decide_eq_false hc)
  clear hc
  refine wp_exit ?_
  refine then_exit ?_
  refine then_exit ?_
  refine block_hit ?_
  have ao := n.kp [(4, Sl.v d)] rfl
  refine then_normal (wp_seq (wp_region_lit ?_))
  refine sqv ao rfl (r_move (ao.get rfl)) fun _ ap => sqv ap rfl (r_assign (ap.get rfl)) fun _ a4 => sq_end ?_
  have aq := a4.kp [(2, Sl.v d)] rfl
  refine then_normal ?_
  refine wp_ret ?_
  exact res_all (vs := [Sl.v d]) rfl aq ⟨res_of_tmp aq rfl, trivial⟩ a3
def codec_reader_hash.vc (q : Addr) (R : Value → World → Prop) (w : World) : Prop :=
∀ (r : World) (p : Nat), New w p r → Chg [] w r →
∃ (x : Int → Int → Int → Int → Int → Int → Int → Int → Int → World → Prop) (aa : Int → Int → Int → Int → Int → Int → Int → Int → Int → World → Nat),
x 0 0 0 0 0 0 0 0 0 r ∧
(∀ (b : Int) (c : Int) (g : Int) (h : Int) (i : Int) (j : Int) (k : Int) (m : Int) (n : Int) (u : World), x b c g h i j k m n u →
((b < 8) →
CallK Tryz.prog 54 #[.pointer (some q)] u [p] (fun v ad => ∃ (o : Int), v = .int .u8 o ∧
((0 : Int) ≤ b ∧ b < 8) ∧
(I64 (b + 1)) ∧
∀ (t : World), Chg [p] ad t →
x (b + 1) ((([c, g, h, i, j, k, m, n] : List Int).set b.toNat o).getD 0 0) ((([c, g, h, i, j, k, m, n] : List Int).set b.toNat o).getD 1 0) ((([c, g, h, i, j, k, m, n] : List Int).set b.toNat o).getD 2 0) ((([c, g, h, i, j, k, m, n] : List Int).set b.toNat o).getD 3 0) ((([c, g, h, i, j, k, m, n] : List Int).set b.toNat o).getD 4 0) ((([c, g, h, i, j, k, m, n] : List Int).set b.toNat o).getD 5 0) ((([c, g, h, i, j, k, m, n] : List Int).set b.toNat o).getD 6 0) ((([c, g, h, i, j, k, m, n] : List Int).set b.toNat o).getD 7 0) t ∧ aa (b + 1) ((([c, g, h, i, j, k, m, n] : List Int).set b.toNat o).getD 0 0) ((([c, g, h, i, j, k, m, n] : List Int).set b.toNat o).getD 1 0) ((([c, g, h, i, j, k, m, n] : List Int).set b.toNat o).getD 2 0) ((([c, g, h, i, j, k, m, n] : List Int).set b.toNat o).getD 3 0) ((([c, g, h, i, j, k, m, n] : List Int).set b.toNat o).getD 4 0) ((([c, g, h, i, j, k, m, n] : List Int).set b.toNat o).getD 5 0) ((([c, g, h, i, j, k, m, n] : List Int).set b.toNat o).getD 6 0) ((([c, g, h, i, j, k, m, n] : List Int).set b.toNat o).getD 7 0) t < aa b c g h i j k m n u)) ∧
((¬ (b < 8)) →
CallK Tryz.prog 55 #[.agg #[.int .u8 c, .int .u8 g, .int .u8 h, .int .u8 i, .int .u8 j, .int .u8 k, .int .u8 m, .int .u8 n]] u [p] (fun v aj => ∃ (y : Int), v = .int .u64 y ∧
R (.int .u64 y) aj)))
theorem codec_reader_hash.ok (q : Addr) {R : Value → World → Prop} {w : World} (ak : codec_reader_hash.vc q R w) : Calls Tryz.prog 31 #[.pointer (some q)] w (Ret R) := by
 refine enter [.pointer (some q)] Tryz.func31 rfl Tryz.ntmps31 rfl ?_
 intro a0 aC
 unfold codec_reader_hash.vc at ak
 refine wp_seq (wp_region_lit ?_)
 refine sqv aC rfl (r_assign rfl) fun _ aD => sq_end ?_
 have aF := aD.kp [(0, .pointer (some q))] rfl
 refine then_normal (wp_seq (wp_region_lit ?_))
 refine sq (opk_new (fun B => .pointer (some ⟨B, 0, none⟩)) aF rfl (r_alloc (cs := [.int .u8 0, .int .u8 0, .int .u8 0, .int .u8 0, .int .u8 0, .int .u8 0, .int .u8 0, .int .u8 0]) ti_66 rfl) fun a6 r p aG aH aI aJ _ => ?_)
 have aK : New w p r := aH
 have aL : Chg [] w r := aG
 refine sq_end ?_
 have aM := aJ.kp [(0, .pointer (some q)), (3, .pointer (some (⟨p, 0, none⟩ : Addr)))] rfl
 refine then_normal (wp_seq (wp_seq (wp_region_lit ?_)))
 refine sqv aM rfl (r_move rfl) fun _ aN => sq_end ?_
 have aO := aN.kp [(0, .pointer (some q)), (3, .pointer (some (⟨p, 0, none⟩ : Addr))), (5, .int .i64 0)] rfl
 refine then_normal (wp_block ?_)
 have aP := ak r p aK  aL
 obtain ⟨x, aa, aQ, aR⟩ := aP
 refine wp_loop_st (σ := Int × Int × Int × Int × Int × Int × Int × Int × Int × World) (fun s a w => Ag 15 a [(0, .pointer (some q)), (3, .pointer (some (⟨p, 0, none⟩ : Addr))), (5, .int .i64 s.1)] ∧ Box w p 66 [.int .u8 s.2.1, .int .u8 s.2.2.1, .int .u8 s.2.2.2.1, .int .u8 s.2.2.2.2.1, .int .u8 s.2.2.2.2.2.1, .int .u8 s.2.2.2.2.2.2.1, .int .u8 s.2.2.2.2.2.2.2.1, .int .u8 s.2.2.2.2.2.2.2.2.1] ∧ w = s.2.2.2.2.2.2.2.2.2 ∧ x s.1 s.2.1 s.2.2.1 s.2.2.2.1 s.2.2.2.2.1 s.2.2.2.2.2.1 s.2.2.2.2.2.2.1 s.2.2.2.2.2.2.2.1 s.2.2.2.2.2.2.2.2.1 s.2.2.2.2.2.2.2.2.2) (fun s => aa s.1 s.2.1 s.2.2.1 s.2.2.2.1 s.2.2.2.2.1 s.2.2.2.2.2.1 s.2.2.2.2.2.2.1 s.2.2.2.2.2.2.2.1 s.2.2.2.2.2.2.2.2.1 s.2.2.2.2.2.2.2.2.2) (0, 0, 0, 0, 0, 0, 0, 0, 0, r) ⟨aO.kp [(0, .pointer (some q)), (3, .pointer (some (⟨p, 0, none⟩ : Addr))), (5, .int .i64 0)] rfl, aI, rfl, aQ⟩ ?_
 rintro ⟨b, c, g, h, i, j, k, m, n, u⟩ bk w_ ⟨al, af, hw_, aS⟩
 have hw_ : u = w_ := hw_.symm
 subst hw_
 have am := aR b c g h i j k m n _ aS
 refine wp_seq (wp_region_lit ?_)
 refine sqv al rfl (r_lss (al.get rfl) rfl) fun _ aT => sq_end ?_
 have ab := aT.kp [(0, .pointer (some q)), (3, .pointer (some (⟨p, 0, none⟩ : Addr))), (5, .int .i64 b), (6, .bool (decide (b < 8)))] rfl
 refine then_normal (wp_seq ?_)
 refine wp_cond_split (ab.get rfl) (fun hc => ?_) (fun hc => ?_)
 ·have aU := am.1 (of_decide_eq_true hc)
  clear hc
  refine wp_skip ?_
  refine then_normal (wp_seq (wp_block (wp_seq (wp_region_lit ?_))))
  refine sqv ab rfl (r_move (ab.get rfl)) fun _ an => sqv an rfl (r_assign (an.get rfl)) fun _ aV => sq_end ?_
  have ao := aV.kp [(0, .pointer (some q)), (3, .pointer (some (⟨p, 0, none⟩ : Addr))), (4, .int .i64 b), (5, .int .i64 b)] rfl
  refine then_normal (wp_region_lit ?_)
  refine sqv ao rfl (r_move (ao.get rfl)) fun _ ap => sqv ap rfl (r_move (ap.get rfl)) fun _ aq => ?_
  refine sq (opk_call aq rfl (r_call (args := #[.pointer (some q)]) Tryz.func54 (by decide) rfl (map_arr (ml_cons (aq.get rfl) ml_nil)) rfl) aU fun bl bm ad ag _ aX bn aY => ?_)
  obtain ⟨o, rfl, aZ⟩ := aY
  have ar := af.kept aX (.head _)
  obtain ⟨ah, ht128⟩ := aZ
  refine sqv ag rfl (r_indexAddrA (ag.get rfl) (ag.get rfl) Tryz.underlying66 ti_5 ah) fun _ ai => ?_
  refine sq (opk_store ai ar (r_store (vs := [.int .u8 o]) (((ai.get rfl)).trans (congrArg (fun a => Value.pointer (some a)) (Addr.addA _ _))) (ai.get rfl) rfl ti_5 ar (Nat.ble_eq_true_of_le (show b.toNat + 1 ≤ 8 by have hs_ := ah; omega)) (ones_all _ rfl)) fun bo t a1 a2 a3 => ?_)
  have a4 : Box t p 66 [.int .u8 ((([c, g, h, i, j, k, m, n] : List Int).set b.toNat o).getD 0 0), .int .u8 ((([c, g, h, i, j, k, m, n] : List Int).set b.toNat o).getD 1 0), .int .u8 ((([c, g, h, i, j, k, m, n] : List Int).set b.toNat o).getD 2 0), .int .u8 ((([c, g, h, i, j, k, m, n] : List Int).set b.toNat o).getD 3 0), .int .u8 ((([c, g, h, i, j, k, m, n] : List Int).set b.toNat o).getD 4 0), .int .u8 ((([c, g, h, i, j, k, m, n] : List Int).set b.toNat o).getD 5 0), .int .u8 ((([c, g, h, i, j, k, m, n] : List Int).set b.toNat o).getD 6 0), .int .u8 ((([c, g, h, i, j, k, m, n] : List Int).set b.toNat o).getD 7 0)] := Box.setA (l := ([c, g, h, i, j, k, m, n] : List Int)) (f := (fun z => Value.int .u8 z)) (d := 0) a2 rfl rfl ah
  have a5 : Chg [p] ad t := a1
  refine sq_end ?_
  have au := a3.kp [(0, .pointer (some q)), (3, .pointer (some (⟨p, 0, none⟩ : Addr))), (5, .int .i64 b)] rfl
  refine block_normal ?_
  refine then_normal (wp_region_lit ?_)
  obtain ⟨hS137, a7⟩ := ht128
  refine sqv au rfl (r_addI (au.get rfl) rfl hS137) fun _ av => sqv av rfl (r_move (av.get rfl)) fun _ a8 => sq_end ?_
  have a9 := a8.kp [(0, .pointer (some q)), (3, .pointer (some (⟨p, 0, none⟩ : Addr))), (5, .int .i64 (b + 1))] rfl
  have ax := a7 t    a5
  have ba := a9.kp [(0, .pointer (some q)), (3, .pointer (some (⟨p, 0, none⟩ : Addr))), (5, .int .i64 (b + 1))] rfl
  exact then_normal ⟨(b + 1, ((([c, g, h, i, j, k, m, n] : List Int).set b.toNat o).getD 0 0), ((([c, g, h, i, j, k, m, n] : List Int).set b.toNat o).getD 1 0), ((([c, g, h, i, j, k, m, n] : List Int).set b.toNat o).getD 2 0), ((([c, g, h, i, j, k, m, n] : List Int).set b.toNat o).getD 3 0), ((([c, g, h, i, j, k, m, n] : List Int).set b.toNat o).getD 4 0), ((([c, g, h, i, j, k, m, n] : List Int).set b.toNat o).getD 5 0), ((([c, g, h, i, j, k, m, n] : List Int).set b.toNat o).getD 6 0), ((([c, g, h, i, j, k, m, n] : List Int).set b.toNat o).getD 7 0), t), ⟨ba, a4, rfl, ax.1⟩, ax.2⟩
 ·have bb := am.2 (of_decide_eq_false hc)
  clear hc
  refine wp_exit ?_
  refine then_exit ?_
  refine then_exit ?_
  refine block_hit ?_
  have ay := ab.kp [(3, .pointer (some (⟨p, 0, none⟩ : Addr)))] rfl
  refine then_normal (wp_seq (wp_region_lit ?_))
  refine sqv ay rfl (r_loadN (cs := [.int .u8 c, .int .u8 g, .int .u8 h, .int .u8 i, .int .u8 j, .int .u8 k, .int .u8 m, .int .u8 n]) Tryz.underlying66 rfl ti_66 (ay.get rfl) (af.part 0 _ rfl)) fun _ az => ?_
  refine sq (opk_call az rfl (r_call (args := #[.agg #[.int .u8 c, .int .u8 g, .int .u8 h, .int .u8 i, .int .u8 j, .int .u8 k, .int .u8 m, .int .u8 n]]) Tryz.func55 (by decide) rfl (map_arr (ml_cons (az.get rfl) ml_nil)) rfl) bb fun bp bq aj aA _ bd br bf => ?_)
  obtain ⟨y, rfl, bg⟩ := bf
  have bs := af.kept bd (.head _)
  refine sqv aA rfl (r_assign (aA.get rfl)) fun _ bh => sq_end ?_
  have aB := bh.kp [(2, .int .u64 y)] rfl
  refine then_normal ?_
  refine wp_ret ?_
  exact res_all (vs := [.int .u64 y]) rfl aB ⟨res_of_tmp aB rfl, trivial⟩ bg
def codec_reader_number.vc (c : Addr) (R : Value → World → Prop) (w : World) : Prop :=
∀ (k : World), Chg [] w k →
∃ (n : Sl), (k.cell? (c.add 0) = some (Sl.v n)) ∧
∃ (o : Int), (k.cell? (c.add 1) = some (.int .i64 o)) ∧
∃ (d : Int) (i : Int) (j : Int), (∀ w' : World, Ext k w' → Calls Tryz.prog 56 #[Sl.v n, .int .i64 o] w' (Ret fun v w'' => Ext w' w'' ∧ v = .tuple #[.int .u64 d, .int .i64 i, .int .i64 j])) ∧
∀ (l : World), Chg [] k l →
∃ (m : Bool), (l.cell? (c.add 2) = some (.bool m)) ∧
(((m = true) ∨ (j ≠ 0)) →
∃ (p u : Nat) (aa : TypeId) (x : List Value), (c.add 2) = ⟨p, u, none⟩ ∧ Box l p aa x ∧ u + 1 ≤ x.length ∧ (∀ b ∈ [], b ≠ p) ∧
(∀ r : World, Chg [p] l r → Box r p aa (putAt x u [.bool true]) →
R (.int .u64 0) r)) ∧
(((m = false) ∧ (¬ (j ≠ 0))) →
∃ (q y : Nat) (ab : TypeId) (z : List Value), (c.add 1) = ⟨q, y, none⟩ ∧ Box l q ab z ∧ y + 1 ≤ z.length ∧ (∀ b ∈ [], b ≠ q) ∧
(∀ s : World, Chg [q] l s → Box s q ab (putAt z y [.int .i64 i]) →
R (.int .u64 d) s))
theorem codec_reader_number.ok (c : Addr) {R : Value → World → Prop} {w : World} (aj : codec_reader_number.vc c R w) : Calls Tryz.prog 32 #[.pointer (some c)] w (Ret R) := by
 refine enter [.pointer (some c)] Tryz.func32 rfl Tryz.ntmps32 rfl ?_
 intro a0 aI
 unfold codec_reader_number.vc at aj
 refine wp_seq (wp_region_lit ?_)
 refine sqv aI rfl (r_assign rfl) fun _ aJ => sq_end ?_
 have f := aJ.kp [(0, .pointer (some c))] rfl
 refine then_normal (wp_seq ?_)
 refine draw' (by kernel_rfl) fun k aK => ?_
 have aL : Chg [] w k := aK
 have aM := aj k    aL
 obtain ⟨n, aN, aO⟩ := aM
 obtain ⟨o, aP, aQ⟩ := aO
 obtain ⟨d, i, j, aR, aS⟩ := aQ
 refine par (D := [[], [0], [0, 1], [0, 1, 2], [], [4], [4, 5], [4, 5, 6], [0, 1, 2, 3, 4, 5, 6, 7], [0, 1, 2, 3, 4, 5, 6, 7, 8], [0, 1, 2, 3, 4, 5, 6, 7, 8, 9], [0, 1, 2, 3, 4, 5, 6, 7, 8, 9], [0, 1, 2, 3, 4, 5, 6, 7, 8, 9], [0, 1, 2, 3, 4, 5, 6, 7, 8, 9, 10], [0, 1, 2, 3, 4, 5, 6, 7, 8, 9, 10, 11, 13], [0, 1, 2, 3, 4, 5, 6, 7, 8, 9, 10, 11, 12, 13, 14]]) (S := [0, 1, 2, 3, 4, 5, 6, 7, 8, 9, 10, 11, 12, 13, 14, 15]) (F := []) (V := VL [(0, fun v _ => v = .pointer (some c)), (1, fun v _ => v = .pointer (some c)), (2, fun v _ => v = .pointer (some (c.add 0))), (3, fun v _ => v = Sl.v n), (4, fun v _ => v = .pointer (some c)), (5, fun v _ => v = .pointer (some c)), (6, fun v _ => v = .pointer (some (c.add 1))), (7, fun v _ => v = .int .i64 o), (8, fun v _ => v = .tuple #[.int .u64 d, .int .i64 i, .int .i64 j]), (9, fun v _ => v = .tuple #[.int .u64 d, .int .i64 i, .int .i64 j]), (10, fun v _ => v = .int .u64 d), (11, fun v _ => v = .int .i64 i), (12, fun v _ => v = .int .i64 j), (13, fun v _ => v = .int .u64 d), (14, fun v _ => v = .int .i64 i), (15, fun v _ => v = .int .i64 j)]) f (by kernel_rfl) ⟨fun _ _ _ _ h => h, fun _ _ _ _ h => h, fun _ _ _ _ h => h, fun _ _ _ _ h => h, fun _ _ _ _ h => h, fun _ _ _ _ h => h, fun _ _ _ _ h => h, fun _ _ _ _ h => h, fun _ _ _ _ h => h, fun _ _ _ _ h => h, fun _ _ _ _ h => h, fun _ _ _ _ h => h, fun _ _ _ _ h => h, fun _ _ _ _ h => h, fun _ _ _ _ h => h, fun _ _ _ _ h => h, trivial⟩ ⟨?_, ?_, ?_, ?_, ?_, ?_, ?_, ?_, ?_, ?_, ?_, ?_, ?_, ?_, ?_, ?_, trivial⟩ ?_
 ·intro a w hT
  have hAp := hT.ag f [(0, .pointer (some c))] ⟨rfl, trivial⟩ (by kernel_rfl)
  exact ovr hAp rfl (r_move (hAp.get rfl)) fun _ => Eq.refl _
 ·intro a w hT
  have hAp := hT.ag f [] trivial (by kernel_rfl)
  have e8 : a.tmps.getD 7 undef = .pointer (some c) := hT.vals 0 rfl 7 rfl
  have hAp := hAp.add e8
  exact ovr hAp rfl (r_nilCheck (hAp.get rfl)) fun _ => Eq.refl _
 ·intro a w hT
  have hAp := hT.ag f [] trivial (by kernel_rfl)
  have e9 : a.tmps.getD 8 undef = .pointer (some c) := hT.vals 1 rfl 8 rfl
  have hAp := hAp.add e9
  exact ovr hAp rfl (r_fieldAddr (hAp.get rfl) Tryz.underlying73 rfl ti_27 (by decide)) fun _ => Eq.refl _
 ·intro a w hT
  have hAp := hT.ag f [] trivial (by kernel_rfl)
  have aV : a.tmps.getD 9 undef = .pointer (some (c.add 0)) := hT.vals 2 rfl 9 rfl
  have hAp := hAp.add aV
  exact ovr hAp rfl (r_load1 tU27 rfl (hAp.get rfl) (Ext.cell hT.chg aN)) fun _ => Eq.refl _
 ·intro a w hT
  have hAp := hT.ag f [(0, .pointer (some c))] ⟨rfl, trivial⟩ (by kernel_rfl)
  exact ovr hAp rfl (r_move (hAp.get rfl)) fun _ => Eq.refl _
 ·intro a w hT
  have hAp := hT.ag f [] trivial (by kernel_rfl)
  have aX : a.tmps.getD 11 undef = .pointer (some c) := hT.vals 4 rfl 11 rfl
  have hAp := hAp.add aX
  exact ovr hAp rfl (r_nilCheck (hAp.get rfl)) fun _ => Eq.refl _
 ·intro a w hT
  have hAp := hT.ag f [] trivial (by kernel_rfl)
  have aY : a.tmps.getD 12 undef = .pointer (some c) := hT.vals 5 rfl 12 rfl
  have hAp := hAp.add aY
  exact ovr hAp rfl (r_fieldAddr (hAp.get rfl) Tryz.underlying73 rfl ti_3 (by decide)) fun _ => Eq.refl _
 ·intro a w hT
  have hAp := hT.ag f [] trivial (by kernel_rfl)
  have aZ : a.tmps.getD 13 undef = .pointer (some (c.add 1)) := hT.vals 6 rfl 13 rfl
  have hAp := hAp.add aZ
  exact ovr hAp rfl (r_load1 tU3 rfl (hAp.get rfl) (Ext.cell hT.chg aP)) fun _ => Eq.refl _
 ·intro a w hT
  have hAp := hT.ag f [] trivial (by kernel_rfl)
  have e20 : a.tmps.getD 10 undef = Sl.v n := hT.vals 3 rfl 10 rfl
  have hAp := hAp.add e20
  have a1 : a.tmps.getD 14 undef = .int .i64 o := hT.vals 7 rfl 14 rfl
  have hAp := hAp.add a1
  exact opk_callX hAp rfl (r_call (args := #[Sl.v n, .int .i64 o]) Tryz.func56 (by decide) rfl (map_arr (ml_cons (hAp.get rfl) (ml_cons (hAp.get rfl) ml_nil))) rfl) (aR w hT.chg) fun _ _ _ _ e hR => ⟨_, e, hR.1, fun _ => hR.2⟩
 ·intro a w hT
  have hAp := hT.ag f [] trivial (by kernel_rfl)
  have a2 : a.tmps.getD 15 undef = .tuple #[.int .u64 d, .int .i64 i, .int .i64 j] := hT.vals 8 rfl 15 rfl
  have hAp := hAp.add a2
  exact ovr hAp rfl (r_move (hAp.get rfl)) fun _ => Eq.refl _
 ·intro a w hT
  have hAp := hT.ag f [] trivial (by kernel_rfl)
  have a3 : a.tmps.getD 6 undef = .tuple #[.int .u64 d, .int .i64 i, .int .i64 j] := hT.vals 9 rfl 6 rfl
  have hAp := hAp.add a3
  exact ovr hAp rfl (r_extract (hAp.get rfl) rfl) fun _ => Eq.refl _
 ·intro a w hT
  have hAp := hT.ag f [] trivial (by kernel_rfl)
  have a4 : a.tmps.getD 6 undef = .tuple #[.int .u64 d, .int .i64 i, .int .i64 j] := hT.vals 9 rfl 6 rfl
  have hAp := hAp.add a4
  exact ovr hAp rfl (r_extract (hAp.get rfl) rfl) fun _ => Eq.refl _
 ·intro a w hT
  have hAp := hT.ag f [] trivial (by kernel_rfl)
  have a5 : a.tmps.getD 6 undef = .tuple #[.int .u64 d, .int .i64 i, .int .i64 j] := hT.vals 9 rfl 6 rfl
  have hAp := hAp.add a5
  exact ovr hAp rfl (r_extract (hAp.get rfl) rfl) fun _ => Eq.refl _
 ·intro a w hT
  have hAp := hT.ag f [] trivial (by kernel_rfl)
  have a6 : a.tmps.getD 16 undef = .int .u64 d := hT.vals 10 rfl 16 rfl
  have hAp := hAp.add a6
  exact ovr hAp rfl (r_assign (hAp.get rfl)) fun _ => Eq.refl _
 ·intro a w hT
  have hAp := hT.ag f [] trivial (by kernel_rfl)
  have a7 : a.tmps.getD 17 undef = .int .i64 i := hT.vals 11 rfl 17 rfl
  have hAp := hAp.add a7
  exact ovr hAp rfl (r_assign (hAp.get rfl)) fun _ => Eq.refl _
 ·intro a w hT
  have hAp := hT.ag f [] trivial (by kernel_rfl)
  have a8 : a.tmps.getD 18 undef = .int .i64 j := hT.vals 12 rfl 18 rfl
  have hAp := hAp.add a8
  exact ovr hAp rfl (r_assign (hAp.get rfl)) fun _ => Eq.refl _
 ·intro ad l a9 ba af
  have bb := ba [(0, .pointer (some c))] ⟨rfl, trivial⟩ (by kernel_rfl)
  have bd : ad.tmps.getD 3 undef = .int .u64 d := af 13 rfl 3 rfl
  have bf := bb.add bd
  have bg : ad.tmps.getD 4 undef = .int .i64 i := af 14 rfl 4 rfl
  have bh := bf.add bg
  have bi : ad.tmps.getD 5 undef = .int .i64 j := af 15 rfl 5 rfl
  have bj := bh.add bi
  have bk : Chg [] k l := a9
  refine PR_end (by kernel_rfl) ?_
  have ak := bj.kp [(0, .pointer (some c)), (3, .int .u64 d), (4, .int .i64 i), (5, .int .i64 j)] rfl
  refine then_normal (wp_seq (wp_seq (wp_region_lit ?_)))
  refine sqv ak rfl (r_move (ak.get rfl)) fun _ al => sqv al rfl (r_nilCheck (al.get rfl)) fun _ am => sqv am rfl (r_fieldAddr (am.get rfl) Tryz.underlying73 rfl ti_4 (by decide)) fun _ an => ?_
  have bl := aS l    bk
  obtain ⟨m, bm, ao⟩ := bl
  refine sqv an rfl (r_load1 tU4 rfl (an.get rfl) bm) fun _ ap => sqv ap rfl (r_move (ap.get rfl)) fun _ aq => ?_
  refine sq (opk_gval aq rfl rfl (g := true) (e := m) rfl (fun hg => r_move (aq.get rfl)) fun bL ar _ => ?_)
  refine sq (opk_gval ar rfl rfl (g := true) (e := m) rfl (fun hg => r_neq (cv_get (ar.get rfl) hg) rfl) fun bM ah _ => ?_)
  refine sqv ah rfl (r_pick_or (g := (true && (m == false))) (ah.get rfl) (ah.get rfl) (fun he => g_mkf rfl he)) fun _ bn => sq_end ?_
  have t := bn.kp [(0, .pointer (some c)), (3, .int .u64 d), (4, .int .i64 i), (26, .bool (m || (decide (j ≠ 0))))] rfl
  refine then_normal ?_
  refine wp_cond_split (t.get rfl) (fun hc => ?_) (fun hc => ?_)
  ·have bo := ao.1 ((b_or_t hc).imp (fun h => h) (fun h => (of_decide_eq_true h)))
   clear hc
   refine wp_seq (wp_region_lit ?_)
   refine sqv t rfl (r_move (t.get rfl)) fun _ au => sqv au rfl (r_nilCheck (au.get rfl)) fun _ av => sqv av rfl (r_fieldAddr (av.get rfl) Tryz.underlying73 rfl ti_4 (by decide)) fun _ ax => ?_
   obtain ⟨p, u, aa, x, bp, ay, bq, bN, br⟩ := bo
   refine sq (opk_store ax ay (r_store (vs := [.bool true]) (((ax.get rfl)).trans (congrArg (fun a => Value.pointer (some a)) bp)) rfl rfl ti_4 ay (Nat.ble_eq_true_of_le bq) (ones_all _ rfl)) fun bO r bs bt bu => ?_)
   have bv := br r bs bt
   refine sq_end ?_
   have bx := bu.kp [] rfl
   refine then_normal (wp_seq (wp_region_lit ?_))
   refine sqv bx rfl (r_assign rfl) fun _ bz => sq_end ?_
   have az := bz.kp [(2, .int .u64 0)] rfl
   refine then_normal ?_
   refine wp_ret ?_
   refine then_ret ?_
   exact res_all (vs := [.int .u64 0]) rfl az ⟨res_of_tmp az rfl, trivial⟩ bv
  ·have bA := ao.2 ⟨(b_or_f hc).1, (of_decide_eq_false (b_or_f hc).2)⟩
   clear hc
   refine wp_skip ?_
   refine then_normal (wp_seq (wp_region_lit ?_))
   refine sqv t rfl (r_move (t.get rfl)) fun _ aA => sqv aA rfl (r_move (aA.get rfl)) fun _ aB => sqv aB rfl (r_nilCheck (aB.get rfl)) fun _ aC => sqv aC rfl (r_fieldAddr (aC.get rfl) Tryz.underlying73 rfl ti_3 (by decide)) fun _ ai => ?_
   obtain ⟨q, y, ab, z, bB, aD, bC, bP, bD⟩ := bA
   refine sq (opk_store ai aD (r_store (vs := [.int .i64 i]) (((ai.get rfl)).trans (congrArg (fun a => Value.pointer (some a)) bB)) (ai.get rfl) rfl ti_3 aD (Nat.ble_eq_true_of_le bC) (ones_all _ rfl)) fun bQ s bF bG bH => ?_)
   have bI := bD s bF bG
   refine sq_end ?_
   have aF := bH.kp [(3, .int .u64 d)] rfl
   refine then_normal (wp_seq (wp_region_lit ?_))
   refine sqv aF rfl (r_move (aF.get rfl)) fun _ aG => sqv aG rfl (r_assign (aG.get rfl)) fun _ bJ => sq_end ?_
   have aH := bJ.kp [(2, .int .u64 d)] rfl
   refine then_normal ?_
   refine wp_ret ?_
   exact res_all (vs := [.int .u64 d]) rfl aH ⟨res_of_tmp aH rfl, trivial⟩ bI
def codec_reader_text.vc (c : Addr) (R : Value → World → Prop) (w : World) : Prop :=
∀ (k : World), Chg [] w k →
∃ (p : Sl), (k.cell? (c.add 0) = some (Sl.v p)) ∧
∃ (q : Int), (k.cell? (c.add 1) = some (.int .i64 q)) ∧
∃ (m : Sl), (k.cell? (c.add 0) = some (Sl.v m)) ∧
∃ (f : Str) (i : Int) (j : Int), (∀ w' : World, Ext k w' → Calls Tryz.prog 57 #[Sl.v p, .int .i64 q, .int .i64 (m.n : Int)] w' (Ret fun v w'' => Ext w' w'' ∧ v = .tuple #[.string (Bs f), .int .i64 i, .int .i64 j])) ∧
∀ (l : World), Chg [] k l →
∃ (o : Bool), (l.cell? (c.add 2) = some (.bool o)) ∧
(((o = true) ∨ (j ≠ 0)) →
∃ (r y : Nat) (ad : TypeId) (z : List Value), (c.add 2) = ⟨r, y, none⟩ ∧ Box l r ad z ∧ y + 1 ≤ z.length ∧ (∀ b ∈ [], b ≠ r) ∧
(∀ t : World, Chg [r] l t → Box t r ad (putAt z y [.bool true]) →
R (.string (Bs [])) t)) ∧
(((o = false) ∧ (¬ (j ≠ 0))) →
∃ (s aa : Nat) (af : TypeId) (ab : List Value), (c.add 1) = ⟨s, aa, none⟩ ∧ Box l s af ab ∧ aa + 1 ≤ ab.length ∧ (∀ b ∈ [], b ≠ s) ∧
(∀ u : World, Chg [s] l u → Box u s af (putAt ab aa [.int .i64 i]) →
R (.string (Bs f)) u))
theorem codec_reader_text.ok (c : Addr) {R : Value → World → Prop} {w : World} (al : codec_reader_text.vc c R w) : Calls Tryz.prog 33 #[.pointer (some c)] w (Ret R) := by
 refine enter [.pointer (some c)] Tryz.func33 rfl Tryz.ntmps33 rfl ?_
 intro a0 aK
 unfold codec_reader_text.vc at al
 refine wp_seq (wp_region_lit ?_)
 refine sqv aK rfl (r_assign rfl) fun _ aL => sq_end ?_
 have d := aL.kp [(0, .pointer (some c))] rfl
 refine then_normal (wp_seq ?_)
 refine draw' (by kernel_rfl) fun k aM => ?_
 have aN : Chg [] w k := aM
 have aO := al k    aN
 obtain ⟨p, aP, aQ⟩ := aO
 obtain ⟨q, aR, aS⟩ := aQ
 obtain ⟨m, aT, aU⟩ := aS
 obtain ⟨f, i, j, aV, aX⟩ := aU
 refine par (D := [[], [0], [0, 1], [0, 1, 2], [], [4], [4, 5], [4, 5, 6], [], [8], [8, 9], [8, 9, 10], [8, 9, 10, 11], [0, 1, 2, 3, 4, 5, 6, 7, 8, 9, 10, 11, 12], [0, 1, 2, 3, 4, 5, 6, 7, 8, 9, 10, 11, 12, 13], [0, 1, 2, 3, 4, 5, 6, 7, 8, 9, 10, 11, 12, 13, 14], [0, 1, 2, 3, 4, 5, 6, 7, 8, 9, 10, 11, 12, 13, 14], [0, 1, 2, 3, 4, 5, 6, 7, 8, 9, 10, 11, 12, 13, 14], [0, 1, 2, 3, 4, 5, 6, 7, 8, 9, 10, 11, 12, 13, 14, 15], [0, 1, 2, 3, 4, 5, 6, 7, 8, 9, 10, 11, 12, 13, 14, 15, 16, 18], [0, 1, 2, 3, 4, 5, 6, 7, 8, 9, 10, 11, 12, 13, 14, 15, 16, 17, 18, 19]]) (S := [0, 1, 2, 3, 4, 5, 6, 7, 8, 9, 10, 11, 12, 13, 14, 15, 16, 17, 18, 19, 20]) (F := []) (V := VL [(0, fun v _ => v = .pointer (some c)), (1, fun v _ => v = .pointer (some c)), (2, fun v _ => v = .pointer (some (c.add 0))), (3, fun v _ => v = Sl.v p), (4, fun v _ => v = .pointer (some c)), (5, fun v _ => v = .pointer (some c)), (6, fun v _ => v = .pointer (some (c.add 1))), (7, fun v _ => v = .int .i64 q), (8, fun v _ => v = .pointer (some c)), (9, fun v _ => v = .pointer (some c)), (10, fun v _ => v = .pointer (some (c.add 0))), (11, fun v _ => v = Sl.v m), (12, fun v _ => v = .int .i64 (m.n : Int)), (13, fun v _ => v = .tuple #[.string (Bs f), .int .i64 i, .int .i64 j]), (14, fun v _ => v = .tuple #[.string (Bs f), .int .i64 i, .int .i64 j]), (15, fun v _ => v = .string (Bs f)), (16, fun v _ => v = .int .i64 i), (17, fun v _ => v = .int .i64 j), (18, fun v _ => v = .string (Bs f)), (19, fun v _ => v = .int .i64 i), (20, fun v _ => v = .int .i64 j)]) d (by kernel_rfl) ⟨fun _ _ _ _ h => h, fun _ _ _ _ h => h, fun _ _ _ _ h => h, fun _ _ _ _ h => h, fun _ _ _ _ h => h, fun _ _ _ _ h => h, fun _ _ _ _ h => h, fun _ _ _ _ h => h, fun _ _ _ _ h => h, fun _ _ _ _ h => h, fun _ _ _ _ h => h, fun _ _ _ _ h => h, fun _ _ _ _ h => h, fun _ _ _ _ h => h, fun _ _ _ _ h => h, fun _ _ _ _ h => h, fun _ _ _ _ h => h, fun _ _ _ _ h => h, fun _ _ _ _ h => h, fun _ _ _ _ h => h, fun _ _ _ _ h => h, trivial⟩ ⟨?_, ?_, ?_, ?_, ?_, ?_, ?_, ?_, ?_, ?_, ?_, ?_, ?_, ?_, ?_, ?_, ?_, ?_, ?_, ?_, ?_, trivial⟩ ?_
 ·intro a w hT
  have hAp := hT.ag d [(0, .pointer (some c))] ⟨rfl, trivial⟩ (by kernel_rfl)
  exact ovr hAp rfl (r_move (hAp.get rfl)) fun _ => Eq.refl _
 ·intro a w hT
  have hAp := hT.ag d [] trivial (by kernel_rfl)
  have e8 : a.tmps.getD 7 undef = .pointer (some c) := hT.vals 0 rfl 7 rfl
  have hAp := hAp.add e8
  exact ovr hAp rfl (r_nilCheck (hAp.get rfl)) fun _ => Eq.refl _
 ·intro a w hT
  have hAp := hT.ag d [] trivial (by kernel_rfl)
  have e9 : a.tmps.getD 8 undef = .pointer (some c) := hT.vals 1 rfl 8 rfl
  have hAp := hAp.add e9
  exact ovr hAp rfl (r_fieldAddr (hAp.get rfl) Tryz.underlying73 rfl ti_27 (by decide)) fun _ => Eq.refl _
 ·intro a w hT
  have hAp := hT.ag d [] trivial (by kernel_rfl)
  have e10 : a.tmps.getD 9 undef = .pointer (some (c.add 0)) := hT.vals 2 rfl 9 rfl
  have hAp := hAp.add e10
  exact ovr hAp rfl (r_load1 tU27 rfl (hAp.get rfl) (Ext.cell hT.chg aP)) fun _ => Eq.refl _
 ·intro a w hT
  have hAp := hT.ag d [(0, .pointer (some c))] ⟨rfl, trivial⟩ (by kernel_rfl)
  exact ovr hAp rfl (r_move (hAp.get rfl)) fun _ => Eq.refl _
 ·intro a w hT
  have hAp := hT.ag d [] trivial (by kernel_rfl)
  have a1 : a.tmps.getD 11 undef = .pointer (some c) := hT.vals 4 rfl 11 rfl
  have hAp := hAp.add a1
  exact ovr hAp rfl (r_nilCheck (hAp.get rfl)) fun _ => Eq.refl _
 ·intro a w hT
  have hAp := hT.ag d [] trivial (by kernel_rfl)
  have a2 : a.tmps.getD 12 undef = .pointer (some c) := hT.vals 5 rfl 12 rfl
  have hAp := hAp.add a2
  exact ovr hAp rfl (r_fieldAddr (hAp.get rfl) Tryz.underlying73 rfl ti_3 (by decide)) fun _ => Eq.refl _
 ·intro a w hT
  have hAp := hT.ag d [] trivial (by kernel_rfl)
  have a3 : a.tmps.getD 13 undef = .pointer (some (c.add 1)) := hT.vals 6 rfl 13 rfl
  have hAp := hAp.add a3
  exact ovr hAp rfl (r_load1 tU3 rfl (hAp.get rfl) (Ext.cell hT.chg aR)) fun _ => Eq.refl _
 ·intro a w hT
  have hAp := hT.ag d [(0, .pointer (some c))] ⟨rfl, trivial⟩ (by kernel_rfl)
  exact ovr hAp rfl (r_move (hAp.get rfl)) fun _ => Eq.refl _
 ·intro a w hT
  have hAp := hT.ag d [] trivial (by kernel_rfl)
  have a4 : a.tmps.getD 15 undef = .pointer (some c) := hT.vals 8 rfl 15 rfl
  have hAp := hAp.add a4
  exact ovr hAp rfl (r_nilCheck (hAp.get rfl)) fun _ => Eq.refl _
 ·intro a w hT
  have hAp := hT.ag d [] trivial (by kernel_rfl)
  have a5 : a.tmps.getD 16 undef = .pointer (some c) := hT.vals 9 rfl 16 rfl
  have hAp := hAp.add a5
  exact ovr hAp rfl (r_fieldAddr (hAp.get rfl) Tryz.underlying73 rfl ti_27 (by decide)) fun _ => Eq.refl _
 ·intro a w hT
  have hAp := hT.ag d [] trivial (by kernel_rfl)
  have a6 : a.tmps.getD 17 undef = .pointer (some (c.add 0)) := hT.vals 10 rfl 17 rfl
  have hAp := hAp.add a6
  exact ovr hAp rfl (r_load1 tU27 rfl (hAp.get rfl) (Ext.cell hT.chg aT)) fun _ => Eq.refl _
 ·intro a w hT
  have hAp := hT.ag d [] trivial (by kernel_rfl)
  have a7 : a.tmps.getD 18 undef = Sl.v m := hT.vals 11 rfl 18 rfl
  have hAp := hAp.add a7
  exact ovr hAp rfl (r_len (hAp.get rfl) tU27) fun _ => Eq.refl _
 ·intro a w hT
  have hAp := hT.ag d [] trivial (by kernel_rfl)
  have a8 : a.tmps.getD 10 undef = Sl.v p := hT.vals 3 rfl 10 rfl
  have hAp := hAp.add a8
  have a9 : a.tmps.getD 14 undef = .int .i64 q := hT.vals 7 rfl 14 rfl
  have hAp := hAp.add a9
  have ba : a.tmps.getD 19 undef = .int .i64 (m.n : Int) := hT.vals 12 rfl 19 rfl
  have hAp := hAp.add ba
  exact opk_callX hAp rfl (r_call (args := #[Sl.v p, .int .i64 q, .int .i64 (m.n : Int)]) Tryz.func57 (by decide) rfl (map_arr (ml_cons (hAp.get rfl) (ml_cons (hAp.get rfl) (ml_cons (hAp.get rfl) ml_nil)))) rfl) (aV w hT.chg) fun _ _ _ _ e hR => ⟨_, e, hR.1, fun _ => hR.2⟩
 ·intro a w hT
  have hAp := hT.ag d [] trivial (by kernel_rfl)
  have bb : a.tmps.getD 20 undef = .tuple #[.string (Bs f), .int .i64 i, .int .i64 j] := hT.vals 13 rfl 20 rfl
  have hAp := hAp.add bb
  exact ovr hAp rfl (r_move (hAp.get rfl)) fun _ => Eq.refl _
 ·intro a w hT
  have hAp := hT.ag d [] trivial (by kernel_rfl)
  have bd : a.tmps.getD 6 undef = .tuple #[.string (Bs f), .int .i64 i, .int .i64 j] := hT.vals 14 rfl 6 rfl
  have hAp := hAp.add bd
  exact ovr hAp rfl (r_extract (hAp.get rfl) rfl) fun _ => Eq.refl _
 ·intro a w hT
  have hAp := hT.ag d [] trivial (by kernel_rfl)
  have bf : a.tmps.getD 6 undef = .tuple #[.string (Bs f), .int .i64 i, .int .i64 j] := hT.vals 14 rfl 6 rfl
  have hAp := hAp.add bf
  exact ovr hAp rfl (r_extract (hAp.get rfl) rfl) fun _ => Eq.refl _
 ·intro a w hT
  have hAp := hT.ag d [] trivial (by kernel_rfl)
  have bg : a.tmps.getD 6 undef = .tuple #[.string (Bs f), .int .i64 i, .int .i64 j] := hT.vals 14 rfl 6 rfl
  have hAp := hAp.add bg
  exact ovr hAp rfl (r_extract (hAp.get rfl) rfl) fun _ => Eq.refl _
 ·intro a w hT
  have hAp := hT.ag d [] trivial (by kernel_rfl)
  have bh : a.tmps.getD 21 undef = .string (Bs f) := hT.vals 15 rfl 21 rfl
  have hAp := hAp.add bh
  exact ovr hAp rfl (r_assign (hAp.get rfl)) fun _ => Eq.refl _
 ·intro a w hT
  have hAp := hT.ag d [] trivial (by kernel_rfl)
  have bi : a.tmps.getD 22 undef = .int .i64 i := hT.vals 16 rfl 22 rfl
  have hAp := hAp.add bi
  exact ovr hAp rfl (r_assign (hAp.get rfl)) fun _ => Eq.refl _
 ·intro a w hT
  have hAp := hT.ag d [] trivial (by kernel_rfl)
  have bj : a.tmps.getD 23 undef = .int .i64 j := hT.vals 17 rfl 23 rfl
  have hAp := hAp.add bj
  exact ovr hAp rfl (r_assign (hAp.get rfl)) fun _ => Eq.refl _
 ·intro ah l bk bl ai
  have bm := bl [(0, .pointer (some c))] ⟨rfl, trivial⟩ (by kernel_rfl)
  have bn : ah.tmps.getD 3 undef = .string (Bs f) := ai 18 rfl 3 rfl
  have bo := bm.add bn
  have bp : ah.tmps.getD 4 undef = .int .i64 i := ai 19 rfl 4 rfl
  have bq := bo.add bp
  have br : ah.tmps.getD 5 undef = .int .i64 j := ai 20 rfl 5 rfl
  have bs := bq.add br
  have bt : Chg [] k l := bk
  refine PR_end (by kernel_rfl) ?_
  have am := bs.kp [(0, .pointer (some c)), (3, .string (Bs f)), (4, .int .i64 i), (5, .int .i64 j)] rfl
  refine then_normal (wp_seq (wp_seq (wp_region_lit ?_)))
  refine sqv am rfl (r_move (am.get rfl)) fun _ an => sqv an rfl (r_nilCheck (an.get rfl)) fun _ ao => sqv ao rfl (r_fieldAddr (ao.get rfl) Tryz.underlying73 rfl ti_4 (by decide)) fun _ ap => ?_
  have bu := aX l    bt
  obtain ⟨o, bv, aq⟩ := bu
  refine sqv ap rfl (r_load1 tU4 rfl (ap.get rfl) bv) fun _ ar => sqv ar rfl (r_move (ar.get rfl)) fun _ au => ?_
  refine sq (opk_gval au rfl rfl (g := true) (e := o) rfl (fun hg => r_move (au.get rfl)) fun bU av _ => ?_)
  refine sq (opk_gval av rfl rfl (g := true) (e := o) rfl (fun hg => r_neq (cv_get (av.get rfl) hg) rfl) fun bV aj _ => ?_)
  refine sqv aj rfl (r_pick_or (g := (true && (o == false))) (aj.get rfl) (aj.get rfl) (fun he => g_mkf rfl he)) fun _ bx => sq_end ?_
  have x := bx.kp [(0, .pointer (some c)), (3, .string (Bs f)), (4, .int .i64 i), (31, .bool (o || (decide (j ≠ 0))))] rfl
  refine then_normal ?_
  refine wp_cond_split (x.get rfl) (fun hc => ?_) (fun hc => ?_)
  ·have bz := aq.1 ((b_or_t hc).imp (fun h => h) (fun h => (of_decide_eq_true h)))
   clear hc
   refine wp_seq (wp_region_lit ?_)
   refine sqv x rfl (r_move (x.get rfl)) fun _ ax => sqv ax rfl (r_nilCheck (ax.get rfl)) fun _ ay => sqv ay rfl (r_fieldAddr (ay.get rfl) Tryz.underlying73 rfl ti_4 (by decide)) fun _ az => ?_
   obtain ⟨r, y, ad, z, bA, aA, bB, bX, bC⟩ := bz
   refine sq (opk_store az aA (r_store (vs := [.bool true]) (((az.get rfl)).trans (congrArg (fun a => Value.pointer (some a)) bA)) rfl rfl ti_4 aA (Nat.ble_eq_true_of_le bB) (ones_all _ rfl)) fun bY t bD bF bG => ?_)
   have bH := bC t bD bF
   refine sq_end ?_
   have bI := bG.kp [] rfl
   refine then_normal (wp_seq (wp_region_lit ?_))
   refine sqv bI rfl (r_assign rfl) fun _ bJ => sq_end ?_
   have aB := bJ.kp [(2, .string (Bs []))] rfl
   refine then_normal ?_
   refine wp_ret ?_
   refine then_ret ?_
   exact res_all (vs := [.string (Bs [])]) rfl aB ⟨res_of_tmp aB rfl, trivial⟩ bH
  ·have bK := aq.2 ⟨(b_or_f hc).1, (of_decide_eq_false (b_or_f hc).2)⟩
   clear hc
   refine wp_skip ?_
   refine then_normal (wp_seq (wp_region_lit ?_))
   refine sqv x rfl (r_move (x.get rfl)) fun _ aC => sqv aC rfl (r_move (aC.get rfl)) fun _ aD => sqv aD rfl (r_nilCheck (aD.get rfl)) fun _ aF => sqv aF rfl (r_fieldAddr (aF.get rfl) Tryz.underlying73 rfl ti_3 (by decide)) fun _ ak => ?_
   obtain ⟨s, aa, af, ab, bL, aG, bM, bZ, bN⟩ := bK
   refine sq (opk_store ak aG (r_store (vs := [.int .i64 i]) (((ak.get rfl)).trans (congrArg (fun a => Value.pointer (some a)) bL)) (ak.get rfl) rfl ti_3 aG (Nat.ble_eq_true_of_le bM) (ones_all _ rfl)) fun b0 u bO bP bQ => ?_)
   have bR := bN u bO bP
   refine sq_end ?_
   have aH := bQ.kp [(3, .string (Bs f))] rfl
   refine then_normal (wp_seq (wp_region_lit ?_))
   refine sqv aH rfl (r_move (aH.get rfl)) fun _ aI => sqv aI rfl (r_assign (aI.get rfl)) fun _ bS => sq_end ?_
   have aJ := bS.kp [(2, .string (Bs f))] rfl
   refine then_normal ?_
   refine wp_ret ?_
   exact res_all (vs := [.string (Bs f)]) rfl aJ ⟨res_of_tmp aJ rfl, trivial⟩ bR
def codec_reader_op.vc (f : Addr) (h : Sl) (R : Value → World → Prop) (w : World) : Prop :=
∀ (y : World) (c : Nat), New w c y → Chg [] w y →
CallK Tryz.prog 54 #[.pointer (some f)] y [c] (fun v a2 => ∃ (a : Int), v = .int .u8 a ∧
(I64 a) ∧
CallK Tryz.prog 32 #[.pointer (some f)] a2 [c] (fun v j => ∃ (d : Int), v = .int .u64 d ∧
((a = 1) →
∀ (g : World) (b : Nat), New j b g → Chg [] j g →
CallK Tryz.prog 32 #[.pointer (some f)] g [c, b] (fun v a3 => ∃ (k : Int), v = .int .u64 k ∧
CallK Tryz.prog 32 #[.pointer (some f)] a3 [c, b] (fun v a4 => ∃ (l : Int), v = .int .u64 l ∧
CallK Tryz.prog 32 #[.pointer (some f)] a4 [c, b] (fun v aq => ∃ (m : Int), v = .int .u64 m ∧
∀ (af : World), Chg [b] aq af →
CallK Tryz.prog 58 #[.pointer (some f), Sl.v h] af [c, b] (fun v w132 => ∃ (n : Str), v = .string (Bs n) ∧
CallK Tryz.prog 58 #[.pointer (some f), Sl.v h] w132 [c, b] (fun v ar => ∃ (q : Str), v = .string (Bs q) ∧
∀ (ag : World), Chg [c, b] ar ag →
R (.agg #[.int .i64 a, .int .i64 (IntKind.i64.wrap d), .int .i64 (IntKind.i64.wrap k), .int .i64 (IntKind.i64.wrap l), .int .i64 (IntKind.i64.wrap m), .string (Bs n), .string (Bs q)]) ag)))))) ∧
((¬ (a = 1)) →
((a = 3) →
∀ (g : World) (b : Nat), New j b g → Chg [] j g →
CallK Tryz.prog 32 #[.pointer (some f)] g [c, b] (fun v a6 => ∃ (o : Int), v = .int .u64 o ∧
CallK Tryz.prog 32 #[.pointer (some f)] a6 [c, b] (fun v au => ∃ (r : Int), v = .int .u64 r ∧
∀ (ah : World), Chg [c, b] au ah →
R (.agg #[.int .i64 a, .int .i64 (IntKind.i64.wrap d), .int .i64 (IntKind.i64.wrap o), .int .i64 (IntKind.i64.wrap r), .int .i64 0, .string (Bs []), .string (Bs [])]) ah))) ∧
((¬ (a = 3)) →
((a = 4) →
∀ (g : World) (b : Nat), New j b g → Chg [] j g →
CallK Tryz.prog 58 #[.pointer (some f), Sl.v h] g [c, b] (fun v a7 => ∃ (p : Str), v = .string (Bs p) ∧
CallK Tryz.prog 58 #[.pointer (some f), Sl.v h] a7 [c, b] (fun v av => ∃ (s : Str), v = .string (Bs s) ∧
∀ (ai : World), Chg [c, b] av ai →
R (.agg #[.int .i64 a, .int .i64 (IntKind.i64.wrap d), .int .i64 0, .int .i64 0, .int .i64 0, .string (Bs p), .string (Bs s)]) ai))) ∧
((¬ (a = 4)) →
((a = 5) →
∀ (g : World) (b : Nat), New j b g → Chg [] j g →
CallK Tryz.prog 58 #[.pointer (some f), Sl.v h] g [c, b] (fun v ax => ∃ (t : Str), v = .string (Bs t) ∧
∀ (aj : World), Chg [c, b] ax aj →
R (.agg #[.int .i64 a, .int .i64 (IntKind.i64.wrap d), .int .i64 0, .int .i64 0, .int .i64 0, .string (Bs t), .string (Bs [])]) aj)) ∧
((¬ (a = 5)) →
((a = 6) →
∀ (g : World) (b : Nat), New j b g → Chg [] j g →
CallK Tryz.prog 58 #[.pointer (some f), Sl.v h] g [c, b] (fun v ay => ∃ (u : Str), v = .string (Bs u) ∧
∀ (ak : World), Chg [c, b] ay ak →
R (.agg #[.int .i64 a, .int .i64 (IntKind.i64.wrap d), .int .i64 0, .int .i64 0, .int .i64 0, .string (Bs []), .string (Bs u)]) ak)) ∧
((¬ (a = 6)) →
∀ (aa : World) (b : Nat), New j b aa → Chg [c] j aa →
R (.agg #[.int .i64 a, .int .i64 (IntKind.i64.wrap d), .int .i64 0, .int .i64 0, .int .i64 0, .string (Bs []), .string (Bs [])]) aa)))))))
theorem codec_reader_op.ok (f : Addr) (h : Sl) {R : Value → World → Prop} {w : World} (a8 : codec_reader_op.vc f h R w) : Calls Tryz.prog 34 #[.pointer (some f), Sl.v h] w (Ret R) := by
 refine enter [.pointer (some f), Sl.v h] Tryz.func34 rfl Tryz.ntmps34 rfl ?_
 intro a0 dl
 unfold codec_reader_op.vc at a8
 refine wp_seq (wp_region_lit ?_)
 refine sq (opk_new (fun B => .pointer (some ⟨B, 0, none⟩)) dl rfl (r_alloc (cs := [.int .i64 0, .int .i64 0, .int .i64 0, .int .i64 0, .int .i64 0, .string (Bs []), .string (Bs [])]) ti_59 rfl) fun a5 y c dm dn dp dq _ => ?_)
 have dr : New w c y := dn
 have ds : Chg [] w y := dm
 refine sq_end ?_
 have a9 := dq.kp [(0, .pointer (some f)), (1, Sl.v h), (4, .pointer (some (⟨c, 0, none⟩ : Addr)))] rfl
 refine then_normal (wp_seq (wp_region_lit ?_))
 refine sqv a9 rfl (r_move (a9.get rfl)) fun _ ba => ?_
 have dt := a8 y c dr  ds
 refine sq (opk_call ba rfl (r_call (args := #[.pointer (some f)]) Tryz.func54 (by decide) rfl (map_arr (ml_cons (ba.get rfl) ml_nil)) rfl) dt fun gY gZ a2 bb _ du g0 dv => ?_)
 obtain ⟨a, rfl, dx⟩ := dv
 have dy := dp.kept du (.head _)
 obtain ⟨dz, dA⟩ := dx
 refine sqv bb rfl (r_convI (bb.get rfl) rfl tU3 dz) fun _ bd => sqv bd rfl (r_move (bd.get rfl)) fun _ bf => ?_
 refine sq (opk_call bf rfl (r_call (args := #[.pointer (some f)]) Tryz.func32 (by decide) rfl (map_arr (ml_cons (bf.get rfl) ml_nil)) rfl) dA fun g1 g2 j bg _ dB g3 dC => ?_)
 obtain ⟨d, rfl, bh⟩ := dC
 have bi := dy.kept dB (.head _)
 refine sqv bg rfl (r_conv (bg.get rfl) rfl tU3) fun _ az => sqv az rfl (r_build (vs := #[(0, .int .i64 a), (1, .int .i64 (IntKind.i64.wrap d))]) (cells := #[.int .i64 a, .int .i64 (IntKind.i64.wrap d), .int .i64 0, .int .i64 0, .int .i64 0, .string (Bs []), .string (Bs [])]) (map_arr2 (ml2_cons (az.get rfl) (ml2_cons (az.get rfl) (ml2_nil)))) ti_59 Tryz.underlying59 pl_59 (by kernel_rfl)) fun _ dD => ?_
 refine sq (opk_new (fun B => .pointer (some ⟨B, 0, none⟩)) dD rfl (r_alloc (cs := [.int .i64 0, .int .i64 0, .int .i64 0, .int .i64 0, .int .i64 0, .string (Bs []), .string (Bs [])]) ti_59 rfl) fun g4 bj b bk bl bm aA _ => ?_)
 have i : c ≠ b := Nat.ne_of_lt (Nat.lt_of_lt_of_le bi.lt bl.ge)
 have bn : New j b bj := bl
 have dF := bi.ext bk
 have dG : Chg [] j bj := bk
 refine sq (opk_store aA bm (r_store (vs := [.int .i64 a, .int .i64 (IntKind.i64.wrap d), .int .i64 0, .int .i64 0, .int .i64 0, .string (Bs []), .string (Bs [])]) (aA.get rfl) (aA.get rfl) rfl ti_59 bm rfl (ones_all _ rfl)) fun g5 g aB dH dI => ?_)
 have x : Box g b 59 [.int .i64 a, .int .i64 (IntKind.i64.wrap d), .int .i64 0, .int .i64 0, .int .i64 0, .string (Bs []), .string (Bs [])] := dH
 have z := dF.keep aB (by simpa using i)
 have ab := dG.storeNew bn aB
 have ad := bn.up aB.size
 refine sq_end ?_
 have bo := dI.kp [(0, .pointer (some f)), (1, Sl.v h), (4, .pointer (some (⟨c, 0, none⟩ : Addr))), (5, .pointer (some (⟨b, 0, none⟩ : Addr)))] rfl
 refine then_normal (wp_seq (wp_seq (wp_region_lit ?_)))
 refine sqv bo rfl (r_fieldAddr (bo.get rfl) Tryz.underlying59 rfl ti_3 (by decide)) fun _ bp => sqv bp rfl (r_load1 tU3 rfl (bp.get rfl) (x.cell 0 _ rfl)) fun _ dJ => sq_end ?_
 have bq := dJ.kp [(0, .pointer (some f)), (1, Sl.v h), (4, .pointer (some (⟨c, 0, none⟩ : Addr))), (5, .pointer (some (⟨b, 0, none⟩ : Addr))), (14, .int .i64 a)] rfl
 refine then_normal (wp_block (wp_seq (wp_region_lit ?_)))
 refine sqv bq rfl (r_eql (bq.get rfl) rfl) fun _ br => sqv br rfl (r_assign (br.get rfl)) fun _ dK => sq_end ?_
 have al := dK.kp [(0, .pointer (some f)), (1, Sl.v h), (4, .pointer (some (⟨c, 0, none⟩ : Addr))), (5, .pointer (some (⟨b, 0, none⟩ : Addr))), (14, .int .i64 a), (15, .bool (decide (a = 1)))] rfl
 refine then_normal ?_
 refine wp_cond_split (al.get rfl) (fun hc => ?_) (fun hc => ?_)
 ·have dL := bh.1 (of_decide_eq_true hc)
  clear hc
  refine wp_seq (wp_region_lit ?_)
  refine sqv al rfl (r_move (al.get rfl)) fun _ bs => ?_
  have dM := dL g b ad  ab
  refine sq (opk_call bs rfl (r_call (args := #[.pointer (some f)]) Tryz.func32 (by decide) rfl (map_arr (ml_cons (bs.get rfl) ml_nil)) rfl) dM fun g6 g7 a3 bt _ bu g8 dN => ?_)
  obtain ⟨k, rfl, dO⟩ := dN
  have dP := z.kept bu (.head _)
  have dQ := x.kept bu (.tail _ (.head _))
  refine sqv bt rfl (r_conv (bt.get rfl) rfl tU3) fun _ bv => sqv bv rfl (r_move (bv.get rfl)) fun _ bx => ?_
  refine sq (opk_call bx rfl (r_call (args := #[.pointer (some f)]) Tryz.func32 (by decide) rfl (map_arr (ml_cons (bx.get rfl) ml_nil)) rfl) dO fun g9 ha a4 bz _ bA hb dR => ?_)
  obtain ⟨l, rfl, dS⟩ := dR
  have dT := dP.kept bA (.head _)
  have dU := dQ.kept bA (.tail _ (.head _))
  refine sqv bz rfl (r_conv (bz.get rfl) rfl tU3) fun _ bB => sqv bB rfl (r_move (bB.get rfl)) fun _ bC => ?_
  refine sq (opk_call bC rfl (r_call (args := #[.pointer (some f)]) Tryz.func32 (by decide) rfl (map_arr (ml_cons (bC.get rfl) ml_nil)) rfl) dS fun hf hg aq bD _ bF hh dV => ?_)
  obtain ⟨m, rfl, dX⟩ := dV
  have dY := dT.kept bF (.head _)
  have bG := dU.kept bF (.tail _ (.head _))
  refine sqv bD rfl (r_conv (bD.get rfl) rfl tU3) fun _ bH => sqv bH rfl (r_fieldAddr (bH.get rfl) Tryz.underlying59 rfl ti_3 (by decide)) fun _ aC => ?_
  refine sq (opk_store aC bG (r_store (vs := [.int .i64 (IntKind.i64.wrap k)]) (aC.get rfl) (aC.get rfl) rfl ti_3 bG rfl (ones_all _ rfl)) fun hi bI bJ dZ bK => ?_)
  have bL : Box bI b 59 [.int .i64 a, .int .i64 (IntKind.i64.wrap d), .int .i64 (IntKind.i64.wrap k), .int .i64 0, .int .i64 0, .string (Bs []), .string (Bs [])] := dZ
  have d0 := dY.keep bJ (by simpa using i)
  have d1 : Chg [b] aq bI := bJ
  refine sqv bK rfl (r_fieldAddr (bK.get rfl) Tryz.underlying59 rfl ti_3 (by decide)) fun _ aD => ?_
  refine sq (opk_store aD bL (r_store (vs := [.int .i64 (IntKind.i64.wrap l)]) (aD.get rfl) (aD.get rfl) rfl ti_3 bL rfl (ones_all _ rfl)) fun hj d2 bM d3 bN => ?_)
  have bO : Box d2 b 59 [.int .i64 a, .int .i64 (IntKind.i64.wrap d), .int .i64 (IntKind.i64.wrap k), .int .i64 (IntKind.i64.wrap l), .int .i64 0, .string (Bs []), .string (Bs [])] := d3
  have d4 := d0.keep bM (by simpa using i)
  have d5 := d1.storeIn (by simp) bM
  refine sqv bN rfl (r_fieldAddr (bN.get rfl) Tryz.underlying59 rfl ti_3 (by decide)) fun _ aF => ?_
  refine sq (opk_store aF bO (r_store (vs := [.int .i64 (IntKind.i64.wrap m)]) (aF.get rfl) (aF.get rfl) rfl ti_3 bO rfl (ones_all _ rfl)) fun hk af bP d6 d7 => ?_)
  have d8 : Box af b 59 [.int .i64 a, .int .i64 (IntKind.i64.wrap d), .int .i64 (IntKind.i64.wrap k), .int .i64 (IntKind.i64.wrap l), .int .i64 (IntKind.i64.wrap m), .string (Bs []), .string (Bs [])] := d6
  have d9 := d4.keep bP (by simpa using i)
  have fa := d5.storeIn (by simp) bP
  refine sq_end ?_
  have bQ := d7.kp [(0, .pointer (some f)), (1, Sl.v h), (4, .pointer (some (⟨c, 0, none⟩ : Addr))), (5, .pointer (some (⟨b, 0, none⟩ : Addr)))] rfl
  refine then_normal (wp_region_lit ?_)
  refine sqv bQ rfl (r_move (bQ.get rfl)) fun _ bR => sqv bR rfl (r_move (bR.get rfl)) fun _ aG => ?_
  have fb := dX af    fa
  refine sq (opk_call aG rfl (r_call (args := #[.pointer (some f), Sl.v h]) Tryz.func58 (by decide) rfl (map_arr (ml_cons (aG.get rfl) (ml_cons (aG.get rfl) ml_nil))) rfl) fb fun hl hm w132 bS _ bT hn fc => ?_)
  obtain ⟨n, rfl, fd⟩ := fc
  have ff := d9.kept bT (.head _)
  have fg := d8.kept bT (.tail _ (.head _))
  refine sqv bS rfl (r_move (bS.get rfl)) fun _ bU => sqv bU rfl (r_move (bU.get rfl)) fun _ aH => ?_
  refine sq (opk_call aH rfl (r_call (args := #[.pointer (some f), Sl.v h]) Tryz.func58 (by decide) rfl (map_arr (ml_cons (aH.get rfl) (ml_cons (aH.get rfl) ml_nil))) rfl) fd fun ho hp ar bV _ bX hq fh => ?_)
  obtain ⟨q, rfl, fi⟩ := fh
  have fj := ff.kept bX (.head _)
  have bY := fg.kept bX (.tail _ (.head _))
  refine sqv bV rfl (r_fieldAddr (bV.get rfl) Tryz.underlying59 rfl ti_9 (by decide)) fun _ aI => ?_
  refine sq (opk_store aI bY (r_store (vs := [.string (Bs n)]) (aI.get rfl) (aI.get rfl) rfl ti_9 bY rfl (ones_all _ rfl)) fun hr bZ b0 fk b1 => ?_)
  have b2 : Box bZ b 59 [.int .i64 a, .int .i64 (IntKind.i64.wrap d), .int .i64 (IntKind.i64.wrap k), .int .i64 (IntKind.i64.wrap l), .int .i64 (IntKind.i64.wrap m), .string (Bs n), .string (Bs [])] := fk
  have fl := fj.keep b0 (by simpa using i)
  have fm : Chg [b] ar bZ := b0
  refine sqv b1 rfl (r_fieldAddr (b1.get rfl) Tryz.underlying59 rfl ti_9 (by decide)) fun _ aJ => ?_
  refine sq (opk_store aJ b2 (r_store (vs := [.string (Bs q)]) (aJ.get rfl) (aJ.get rfl) rfl ti_9 b2 rfl (ones_all _ rfl)) fun hs fn b3 fo fp => ?_)
  have b4 : Box fn b 59 [.int .i64 a, .int .i64 (IntKind.i64.wrap d), .int .i64 (IntKind.i64.wrap k), .int .i64 (IntKind.i64.wrap l), .int .i64 (IntKind.i64.wrap m), .string (Bs n), .string (Bs q)] := fo
  have b5 := fl.keep b3 (by simpa using i)
  have fq := fm.storeIn (by simp) b3
  refine sq_end ?_
  have b6 := fp.kp [(4, .pointer (some (⟨c, 0, none⟩ : Addr))), (5, .pointer (some (⟨b, 0, none⟩ : Addr)))] rfl
  refine block_normal ?_
  refine then_normal (wp_seq (wp_region_lit ?_))
  refine sqv b6 rfl (r_loadN (cs := [.int .i64 a, .int .i64 (IntKind.i64.wrap d), .int .i64 (IntKind.i64.wrap k), .int .i64 (IntKind.i64.wrap l), .int .i64 (IntKind.i64.wrap m), .string (Bs n), .string (Bs q)]) Tryz.underlying59 rfl ti_59 (b6.get rfl) (b4.part 0 _ rfl)) fun _ aK => ?_
  refine sq (opk_store aK b5 (r_store (vs := [.int .i64 a, .int .i64 (IntKind.i64.wrap d), .int .i64 (IntKind.i64.wrap k), .int .i64 (IntKind.i64.wrap l), .int .i64 (IntKind.i64.wrap m), .string (Bs n), .string (Bs q)]) (aK.get rfl) (aK.get rfl) rfl ti_59 b5 rfl (ones_all _ rfl)) fun ht ag b7 fr fs => ?_)
  have ft : Box ag c 59 [.int .i64 a, .int .i64 (IntKind.i64.wrap d), .int .i64 (IntKind.i64.wrap k), .int .i64 (IntKind.i64.wrap l), .int .i64 (IntKind.i64.wrap m), .string (Bs n), .string (Bs q)] := fr
  have hu := b4.keep b7 (by simpa using i.symm)
  have fu := fq.storeOld b7
  refine sq_end ?_
  have b8 := fs.kp [(4, .pointer (some (⟨c, 0, none⟩ : Addr)))] rfl
  refine then_normal ?_
  refine wp_ret ?_
  have fv := fi ag    fu
  exact res_all (vs := [.agg #[.int .i64 a, .int .i64 (IntKind.i64.wrap d), .int .i64 (IntKind.i64.wrap k), .int .i64 (IntKind.i64.wrap l), .int .i64 (IntKind.i64.wrap m), .string (Bs n), .string (Bs q)]]) rfl b8 ⟨res_of_cell b8 rfl ft Tryz.underlying59 rfl ti_59, trivial⟩ fv
 ·have b9 := bh.2 (of_decide_eq_false hc)
  clear hc
  refine wp_seq (wp_region_lit ?_)
  refine sqv al rfl (r_eql (al.get rfl) rfl) fun _ ca => sqv ca rfl (r_assign (ca.get rfl)) fun _ fx => sq_end ?_
  have am := fx.kp [(0, .pointer (some f)), (1, Sl.v h), (4, .pointer (some (⟨c, 0, none⟩ : Addr))), (5, .pointer (some (⟨b, 0, none⟩ : Addr))), (14, .int .i64 a), (37, .bool (decide (a = 3)))] rfl
  refine then_normal ?_
  refine wp_cond_split (am.get rfl) (fun hc => ?_) (fun hc => ?_)
  ·have fy := b9.1 (of_decide_eq_true hc)
   clear hc
   refine wp_region_lit ?_
   refine sqv am rfl (r_move (am.get rfl)) fun _ cb => ?_
   have fz := fy g b ad  ab
   refine sq (opk_call cb rfl (r_call (args := #[.pointer (some f)]) Tryz.func32 (by decide) rfl (map_arr (ml_cons (cb.get rfl) ml_nil)) rfl) fz fun hv hx a6 cc _ cd hy fA => ?_)
   obtain ⟨o, rfl, fB⟩ := fA
   have fC := z.kept cd (.head _)
   have fD := x.kept cd (.tail _ (.head _))
   refine sqv cc rfl (r_conv (cc.get rfl) rfl tU3) fun _ cf => sqv cf rfl (r_move (cf.get rfl)) fun _ cg => ?_
   refine sq (opk_call cg rfl (r_call (args := #[.pointer (some f)]) Tryz.func32 (by decide) rfl (map_arr (ml_cons (cg.get rfl) ml_nil)) rfl) fB fun hz hA au ch _ ci hB fF => ?_)
   obtain ⟨r, rfl, fG⟩ := fF
   have fH := fC.kept ci (.head _)
   have cj := fD.kept ci (.tail _ (.head _))
   refine sqv ch rfl (r_conv (ch.get rfl) rfl tU3) fun _ ck => sqv ck rfl (r_fieldAddr (ck.get rfl) Tryz.underlying59 rfl ti_3 (by decide)) fun _ aL => ?_
   refine sq (opk_store aL cj (r_store (vs := [.int .i64 (IntKind.i64.wrap o)]) (aL.get rfl) (aL.get rfl) rfl ti_3 cj rfl (ones_all _ rfl)) fun hC cl cm fI cn => ?_)
   have co : Box cl b 59 [.int .i64 a, .int .i64 (IntKind.i64.wrap d), .int .i64 (IntKind.i64.wrap o), .int .i64 0, .int .i64 0, .string (Bs []), .string (Bs [])] := fI
   have fJ := fH.keep cm (by simpa using i)
   have fK : Chg [b] au cl := cm
   refine sqv cn rfl (r_fieldAddr (cn.get rfl) Tryz.underlying59 rfl ti_3 (by decide)) fun _ aM => ?_
   refine sq (opk_store aM co (r_store (vs := [.int .i64 (IntKind.i64.wrap r)]) (aM.get rfl) (aM.get rfl) rfl ti_3 co rfl (ones_all _ rfl)) fun hD fL cp fM fN => ?_)
   have cq : Box fL b 59 [.int .i64 a, .int .i64 (IntKind.i64.wrap d), .int .i64 (IntKind.i64.wrap o), .int .i64 (IntKind.i64.wrap r), .int .i64 0, .string (Bs []), .string (Bs [])] := fM
   have cr := fJ.keep cp (by simpa using i)
   have fO := fK.storeIn (by simp) cp
   refine sq_end ?_
   have ct := fN.kp [(4, .pointer (some (⟨c, 0, none⟩ : Addr))), (5, .pointer (some (⟨b, 0, none⟩ : Addr)))] rfl
   refine block_normal ?_
   refine then_normal (wp_seq (wp_region_lit ?_))
   refine sqv ct rfl (r_loadN (cs := [.int .i64 a, .int .i64 (IntKind.i64.wrap d), .int .i64 (IntKind.i64.wrap o), .int .i64 (IntKind.i64.wrap r), .int .i64 0, .string (Bs []), .string (Bs [])]) Tryz.underlying59 rfl ti_59 (ct.get rfl) (cq.part 0 _ rfl)) fun _ aN => ?_
   refine sq (opk_store aN cr (r_store (vs := [.int .i64 a, .int .i64 (IntKind.i64.wrap d), .int .i64 (IntKind.i64.wrap o), .int .i64 (IntKind.i64.wrap r), .int .i64 0, .string (Bs []), .string (Bs [])]) (aN.get rfl) (aN.get rfl) rfl ti_59 cr rfl (ones_all _ rfl)) fun hF ah cu fP fQ => ?_)
   have fR : Box ah c 59 [.int .i64 a, .int .i64 (IntKind.i64.wrap d), .int .i64 (IntKind.i64.wrap o), .int .i64 (IntKind.i64.wrap r), .int .i64 0, .string (Bs []), .string (Bs [])] := fP
   have hG := cq.keep cu (by simpa using i.symm)
   have fS := fO.storeOld cu
   refine sq_end ?_
   have cv := fQ.kp [(4, .pointer (some (⟨c, 0, none⟩ : Addr)))] rfl
   refine then_normal ?_
   refine wp_ret ?_
   have fT := fG ah    fS
   exact res_all (vs := [.agg #[.int .i64 a, .int .i64 (IntKind.i64.wrap d), .int .i64 (IntKind.i64.wrap o), .int .i64 (IntKind.i64.wrap r), .int .i64 0, .string (Bs []), .string (Bs [])]]) rfl cv ⟨res_of_cell cv rfl fR Tryz.underlying59 rfl ti_59, trivial⟩ fT
  ·have cx := b9.2 (of_decide_eq_false hc)
   clear hc
   refine wp_seq (wp_region_lit ?_)
   refine sqv am rfl (r_eql (am.get rfl) rfl) fun _ cy => sqv cy rfl (r_assign (cy.get rfl)) fun _ fU => sq_end ?_
   have an := fU.kp [(0, .pointer (some f)), (1, Sl.v h), (4, .pointer (some (⟨c, 0, none⟩ : Addr))), (5, .pointer (some (⟨b, 0, none⟩ : Addr))), (14, .int .i64 a), (47, .bool (decide (a = 4)))] rfl
   refine then_normal ?_
   refine wp_cond_split (an.get rfl) (fun hc => ?_) (fun hc => ?_)
   ·have fV := cx.1 (of_decide_eq_true hc)
    clear hc
    refine wp_region_lit ?_
    refine sqv an rfl (r_move (an.get rfl)) fun _ cz => sqv cz rfl (r_move (cz.get rfl)) fun _ aO => ?_
    have fX := fV g b ad  ab
    refine sq (opk_call aO rfl (r_call (args := #[.pointer (some f), Sl.v h]) Tryz.func58 (by decide) rfl (map_arr (ml_cons (aO.get rfl) (ml_cons (aO.get rfl) ml_nil))) rfl) fX fun hH hI a7 cA _ cB hJ fY => ?_)
    obtain ⟨p, rfl, fZ⟩ := fY
    have f0 := z.kept cB (.head _)
    have f1 := x.kept cB (.tail _ (.head _))
    refine sqv cA rfl (r_move (cA.get rfl)) fun _ cC => sqv cC rfl (r_move (cC.get rfl)) fun _ aP => ?_
    refine sq (opk_call aP rfl (r_call (args := #[.pointer (some f), Sl.v h]) Tryz.func58 (by decide) rfl (map_arr (ml_cons (aP.get rfl) (ml_cons (aP.get rfl) ml_nil))) rfl) fZ fun hK hL av cD _ cF hM f2 => ?_)
    obtain ⟨s, rfl, f3⟩ := f2
    have f4 := f0.kept cF (.head _)
    have cG := f1.kept cF (.tail _ (.head _))
    refine sqv cD rfl (r_fieldAddr (cD.get rfl) Tryz.underlying59 rfl ti_9 (by decide)) fun _ aQ => ?_
    refine sq (opk_store aQ cG (r_store (vs := [.string (Bs p)]) (aQ.get rfl) (aQ.get rfl) rfl ti_9 cG rfl (ones_all _ rfl)) fun hN cH cI f5 cJ => ?_)
    have cK : Box cH b 59 [.int .i64 a, .int .i64 (IntKind.i64.wrap d), .int .i64 0, .int .i64 0, .int .i64 0, .string (Bs p), .string (Bs [])] := f5
    have f6 := f4.keep cI (by simpa using i)
    have f7 : Chg [b] av cH := cI
    refine sqv cJ rfl (r_fieldAddr (cJ.get rfl) Tryz.underlying59 rfl ti_9 (by decide)) fun _ aR => ?_
    refine sq (opk_store aR cK (r_store (vs := [.string (Bs s)]) (aR.get rfl) (aR.get rfl) rfl ti_9 cK rfl (ones_all _ rfl)) fun hO f8 cL f9 ga => ?_)
    have cM : Box f8 b 59 [.int .i64 a, .int .i64 (IntKind.i64.wrap d), .int .i64 0, .int .i64 0, .int .i64 0, .string (Bs p), .string (Bs s)] := f9
    have cN := f6.keep cL (by simpa using i)
    have gb := f7.storeIn (by simp) cL
    refine sq_end ?_
    have cO := ga.kp [(4, .pointer (some (⟨c, 0, none⟩ : Addr))), (5, .pointer (some (⟨b, 0, none⟩ : Addr)))] rfl
    refine block_normal ?_
    refine then_normal (wp_seq (wp_region_lit ?_))
    refine sqv cO rfl (r_loadN (cs := [.int .i64 a, .int .i64 (IntKind.i64.wrap d), .int .i64 0, .int .i64 0, .int .i64 0, .string (Bs p), .string (Bs s)]) Tryz.underlying59 rfl ti_59 (cO.get rfl) (cM.part 0 _ rfl)) fun _ aS => ?_
    refine sq (opk_store aS cN (r_store (vs := [.int .i64 a, .int .i64 (IntKind.i64.wrap d), .int .i64 0, .int .i64 0, .int .i64 0, .string (Bs p), .string (Bs s)]) (aS.get rfl) (aS.get rfl) rfl ti_59 cN rfl (ones_all _ rfl)) fun hP ai cP gc gd => ?_)
    have gf : Box ai c 59 [.int .i64 a, .int .i64 (IntKind.i64.wrap d), .int .i64 0, .int .i64 0, .int .i64 0, .string (Bs p), .string (Bs s)] := gc
    have hQ := cM.keep cP (by simpa using i.symm)
    have gg := gb.storeOld cP
    refine sq_end ?_
    have cQ := gd.kp [(4, .pointer (some (⟨c, 0, none⟩ : Addr)))] rfl
    refine then_normal ?_
    refine wp_ret ?_
    have gh := f3 ai    gg
    exact res_all (vs := [.agg #[.int .i64 a, .int .i64 (IntKind.i64.wrap d), .int .i64 0, .int .i64 0, .int .i64 0, .string (Bs p), .string (Bs s)]]) rfl cQ ⟨res_of_cell cQ rfl gf Tryz.underlying59 rfl ti_59, trivial⟩ gh
   ·have cR := cx.2 (of_decide_eq_false hc)
    clear hc
    refine wp_seq (wp_region_lit ?_)
    refine sqv an rfl (r_eql (an.get rfl) rfl) fun _ cS => sqv cS rfl (r_assign (cS.get rfl)) fun _ gi => sq_end ?_
    have ao := gi.kp [(0, .pointer (some f)), (1, Sl.v h), (4, .pointer (some (⟨c, 0, none⟩ : Addr))), (5, .pointer (some (⟨b, 0, none⟩ : Addr))), (14, .int .i64 a), (57, .bool (decide (a = 5)))] rfl
    refine then_normal ?_
    refine wp_cond_split (ao.get rfl) (fun hc => ?_) (fun hc => ?_)
    ·have gj := cR.1 (of_decide_eq_true hc)
     clear hc
     refine wp_region_lit ?_
     refine sqv ao rfl (r_move (ao.get rfl)) fun _ cT => sqv cT rfl (r_move (cT.get rfl)) fun _ aT => ?_
     have gk := gj g b ad  ab
     refine sq (opk_call aT rfl (r_call (args := #[.pointer (some f), Sl.v h]) Tryz.func58 (by decide) rfl (map_arr (ml_cons (aT.get rfl) (ml_cons (aT.get rfl) ml_nil))) rfl) gk fun hR hS ax cU _ cX hU gl => ?_)
     obtain ⟨t, rfl, gm⟩ := gl
     have gn := z.kept cX (.head _)
     have cY := x.kept cX (.tail _ (.head _))
     refine sqv cU rfl (r_fieldAddr (cU.get rfl) Tryz.underlying59 rfl ti_9 (by decide)) fun _ aU => ?_
     refine sq (opk_store aU cY (r_store (vs := [.string (Bs t)]) (aU.get rfl) (aU.get rfl) rfl ti_9 cY rfl (ones_all _ rfl)) fun hV cZ c0 go gp => ?_)
     have c1 : Box cZ b 59 [.int .i64 a, .int .i64 (IntKind.i64.wrap d), .int .i64 0, .int .i64 0, .int .i64 0, .string (Bs t), .string (Bs [])] := go
     have c2 := gn.keep c0 (by simpa using i)
     have gq : Chg [b] ax cZ := c0
     refine sq_end ?_
     have c3 := gp.kp [(4, .pointer (some (⟨c, 0, none⟩ : Addr))), (5, .pointer (some (⟨b, 0, none⟩ : Addr)))] rfl
     refine block_normal ?_
     refine then_normal (wp_seq (wp_region_lit ?_))
     refine sqv c3 rfl (r_loadN (cs := [.int .i64 a, .int .i64 (IntKind.i64.wrap d), .int .i64 0, .int .i64 0, .int .i64 0, .string (Bs t), .string (Bs [])]) Tryz.underlying59 rfl ti_59 (c3.get rfl) (c1.part 0 _ rfl)) fun _ aV => ?_
     refine sq (opk_store aV c2 (r_store (vs := [.int .i64 a, .int .i64 (IntKind.i64.wrap d), .int .i64 0, .int .i64 0, .int .i64 0, .string (Bs t), .string (Bs [])]) (aV.get rfl) (aV.get rfl) rfl ti_59 c2 rfl (ones_all _ rfl)) fun hX aj c4 gr gs => ?_)
     have gu : Box aj c 59 [.int .i64 a, .int .i64 (IntKind.i64.wrap d), .int .i64 0, .int .i64 0, .int .i64 0, .string (Bs t), .string (Bs [])] := gr
     have hY := c1.keep c4 (by simpa using i.symm)
     have gx := gq.storeOld c4
     refine sq_end ?_
     have c5 := gs.kp [(4, .pointer (some (⟨c, 0, none⟩ : Addr)))] rfl
     refine then_normal ?_
     refine wp_ret ?_
     have gy := gm aj    gx
     exact res_all (vs := [.agg #[.int .i64 a, .int .i64 (IntKind.i64.wrap d), .int .i64 0, .int .i64 0, .int .i64 0, .string (Bs t), .string (Bs [])]]) rfl c5 ⟨res_of_cell c5 rfl gu Tryz.underlying59 rfl ti_59, trivial⟩ gy
    ·have c6 := cR.2 (of_decide_eq_false hc)
     clear hc
     refine wp_seq (wp_region_lit ?_)
     refine sqv ao rfl (r_eql (ao.get rfl) rfl) fun _ c7 => sqv c7 rfl (r_assign (c7.get rfl)) fun _ gz => sq_end ?_
     have ap := gz.kp [(0, .pointer (some f)), (1, Sl.v h), (4, .pointer (some (⟨c, 0, none⟩ : Addr))), (5, .pointer (some (⟨b, 0, none⟩ : Addr))), (63, .bool (decide (a = 6)))] rfl
     refine then_normal ?_
     refine wp_cond_split (ap.get rfl) (fun hc => ?_) (fun hc => ?_)
     ·have gA := c6.1 (of_decide_eq_true hc)
      clear hc
      refine wp_region_lit ?_
      refine sqv ap rfl (r_move (ap.get rfl)) fun _ c8 => sqv c8 rfl (r_move (c8.get rfl)) fun _ aX => ?_
      have gB := gA g b ad  ab
      refine sq (opk_call aX rfl (r_call (args := #[.pointer (some f), Sl.v h]) Tryz.func58 (by decide) rfl (map_arr (ml_cons (aX.get rfl) (ml_cons (aX.get rfl) ml_nil))) rfl) gB fun hZ h0 ay c9 _ da h1 gC => ?_)
      obtain ⟨u, rfl, gD⟩ := gC
      have gF := z.kept da (.head _)
      have db := x.kept da (.tail _ (.head _))
      refine sqv c9 rfl (r_fieldAddr (c9.get rfl) Tryz.underlying59 rfl ti_9 (by decide)) fun _ aY => ?_
      refine sq (opk_store aY db (r_store (vs := [.string (Bs u)]) (aY.get rfl) (aY.get rfl) rfl ti_9 db rfl (ones_all _ rfl)) fun h2 dc dd gG gH => ?_)
      have df : Box dc b 59 [.int .i64 a, .int .i64 (IntKind.i64.wrap d), .int .i64 0, .int .i64 0, .int .i64 0, .string (Bs []), .string (Bs u)] := gG
      have dg := gF.keep dd (by simpa using i)
      have gI : Chg [b] ay dc := dd
      refine sq_end ?_
      have dh := gH.kp [(4, .pointer (some (⟨c, 0, none⟩ : Addr))), (5, .pointer (some (⟨b, 0, none⟩ : Addr)))] rfl
      refine block_normal ?_
      refine then_normal (wp_seq (wp_region_lit ?_))
      refine sqv dh rfl (r_loadN (cs := [.int .i64 a, .int .i64 (IntKind.i64.wrap d), .int .i64 0, .int .i64 0, .int .i64 0, .string (Bs []), .string (Bs u)]) Tryz.underlying59 rfl ti_59 (dh.get rfl) (df.part 0 _ rfl)) fun _ aZ => ?_
      refine sq (opk_store aZ dg (r_store (vs := [.int .i64 a, .int .i64 (IntKind.i64.wrap d), .int .i64 0, .int .i64 0, .int .i64 0, .string (Bs []), .string (Bs u)]) (aZ.get rfl) (aZ.get rfl) rfl ti_59 dg rfl (ones_all _ rfl)) fun h3 ak di gJ gK => ?_)
      have gL : Box ak c 59 [.int .i64 a, .int .i64 (IntKind.i64.wrap d), .int .i64 0, .int .i64 0, .int .i64 0, .string (Bs []), .string (Bs u)] := gJ
      have h4 := df.keep di (by simpa using i.symm)
      have gM := gI.storeOld di
      refine sq_end ?_
      have dj := gK.kp [(4, .pointer (some (⟨c, 0, none⟩ : Addr)))] rfl
      refine then_normal ?_
      refine wp_ret ?_
      have gN := gD ak    gM
      exact res_all (vs := [.agg #[.int .i64 a, .int .i64 (IntKind.i64.wrap d), .int .i64 0, .int .i64 0, .int .i64 0, .string (Bs []), .string (Bs u)]]) rfl dj ⟨res_of_cell dj rfl gL Tryz.underlying59 rfl ti_59, trivial⟩ gN
     ·have gO := c6.2 (of_decide_eq_false hc)
      clear hc
      refine wp_skip ?_
      refine block_normal ?_
      refine then_normal (wp_seq (wp_region_lit ?_))
      refine sqv ap rfl (r_loadN (cs := [.int .i64 a, .int .i64 (IntKind.i64.wrap d), .int .i64 0, .int .i64 0, .int .i64 0, .string (Bs []), .string (Bs [])]) Tryz.underlying59 rfl ti_59 (ap.get rfl) (x.part 0 _ rfl)) fun _ hA367 => ?_
      refine sq (opk_store hA367 z (r_store (vs := [.int .i64 a, .int .i64 (IntKind.i64.wrap d), .int .i64 0, .int .i64 0, .int .i64 0, .string (Bs []), .string (Bs [])]) (hA367.get rfl) (hA367.get rfl) rfl ti_59 z rfl (ones_all _ rfl)) fun h5 aa a1 gP gQ => ?_)
      have gR : Box aa c 59 [.int .i64 a, .int .i64 (IntKind.i64.wrap d), .int .i64 0, .int .i64 0, .int .i64 0, .string (Bs []), .string (Bs [])] := gP
      have h6 := x.keep a1 (by simpa using i.symm)
      have gS := ab.storeOld a1
      have gT := ad.up a1.size
      refine sq_end ?_
      have dk := gQ.kp [(4, .pointer (some (⟨c, 0, none⟩ : Addr)))] rfl
      refine then_normal ?_
      refine wp_ret ?_
      have gU := gO aa b gT  gS
      exact res_all (vs := [.agg #[.int .i64 a, .int .i64 (IntKind.i64.wrap d), .int .i64 0, .int .i64 0, .int .i64 0, .string (Bs []), .string (Bs [])]]) rfl dk ⟨res_of_cell dk rfl gR Tryz.underlying59 rfl ti_59, trivial⟩ gU
end Go.Proofs.YteacalmdpoblpaaGreat
