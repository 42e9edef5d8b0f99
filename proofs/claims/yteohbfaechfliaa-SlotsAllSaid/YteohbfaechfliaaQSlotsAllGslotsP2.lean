/-
  PRINTED BY PROGRAM: for each function its condition (vc), and that this suffices (ok).
-/
import Derived.Test.YteohbfaechfliaaQSlotsAllGT
namespace Go.Proofs.Yteohbfaechfliaa
open Go.RowKit
set_option linter.unusedVariables false
set_option maxHeartbeats 1000000
set_option maxRecDepth 10000
def slots_changed.vc (aj : Int) (ak : Str) (o : Str) (i : Sl) (al : Sl) (ab : Int) (ad : Str) (m : Str) (f : Sl) (af : Sl) (R : Value → World → Prop) (w : World) : Prop :=
∀ (ag : World) (j : Nat) (d : Nat) (c : Nat) (b : Nat), New w j ag → New w d ag → New w c ag → New w b ag → j ≠ d → j ≠ c → j ≠ b → d ≠ c → d ≠ b → c ≠ b → Chg [] w ag →
∃ (aA : Int → Sl → World → Prop) (aB : Int → Sl → World → Nat),
aA 0 Sl.nil ag ∧
(∀ (k : Int) (p : Sl) (u : World), aA k p u →
((k < (f.n : Int)) →
((0 : Int) ≤ k ∧ k < (f.n : Int)) ∧ ∃ bh : Addr, f.a = some bh ∧
∃ (ah : Str) (y : Str), (Cells u (bh.add (k.toNat * 2)) [.string (Bs ah), .string (Bs y)]) ∧
∀ (aC : World) (q : Nat), New u q aC → Chg [] u aC →
CallK Try.prog 65 #[.agg #[.int .i64 aj, .string (Bs ak), .string (Bs o), Sl.v i, Sl.v al], .string (Bs ah)] aC [j, d, c, b, q] (fun v an => ∃ (aD : Str) (z : Bool), v = .tuple #[.string (Bs aD), .bool z] ∧
(((z = false) ∨ (aD ≠ y)) →
∀ (ao : World) (aa : Nat), New an aa ao → Chg [] an ao →
∀ (_ : Box ao aa 47 [.string (Bs ah), .string (Bs y)]),
RunK Try.prog (Builtin.append_ #[23, 23] 23 #[Sl.v p, Sl.v (Sl.mk (some ⟨aa, 0, none⟩) 1 1)]) ao [j, d, c, b, q] (fun v bi => ∃ (ax : Sl), v = Sl.v ax ∧
(I64 (k + 1)) ∧
∀ (ap : World), Chg [b] bi ap →
aA (k + 1) ax ap ∧ aB (k + 1) ax ap < aB k p u)) ∧
(((z = true) ∧ (¬ (aD ≠ y))) →
(I64 (k + 1)) ∧
aA (k + 1) p an ∧ aB (k + 1) p an < aB k p u))) ∧
((¬ (k < (f.n : Int))) →
∃ (aF : Int → Sl → World → Prop) (aG : Int → Sl → World → Nat),
aF 0 Sl.nil u ∧
(∀ (l : Int) (r : Sl) (x : World), aF l r x →
((l < (i.n : Int)) →
((0 : Int) ≤ l ∧ l < (i.n : Int)) ∧ ∃ bj : Addr, i.a = some bj ∧
∃ (am : Str) (a2 : Str), (Cells x (bj.add (l.toNat * 2)) [.string (Bs am), .string (Bs a2)]) ∧
∀ (aH : World) (t : Nat), New x t aH → Chg [] x aH →
CallK Try.prog 65 #[.agg #[.int .i64 ab, .string (Bs ad), .string (Bs m), Sl.v f, Sl.v af], .string (Bs am)] aH [d, c, b, t] (fun v aq => ∃ (bS : Str) (aI : Bool), v = .tuple #[.string (Bs bS), .bool aI] ∧
((aI = false) →
∀ (ar : World) (ai : Nat), New aq ai ar → Chg [] aq ar →
∀ (_ : Box ar ai 9 [.string (Bs am)]),
RunK Try.prog (Builtin.append_ #[41, 41] 41 #[Sl.v r, Sl.v (Sl.mk (some ⟨ai, 0, none⟩) 1 1)]) ar [d, c, b, t] (fun v bk => ∃ (ay : Sl), v = Sl.v ay ∧
(I64 (l + 1)) ∧
∀ (au : World), Chg [b] bk au →
aF (l + 1) ay au ∧ aG (l + 1) ay au < aG l r x)) ∧
((aI = true) →
(I64 (l + 1)) ∧
aF (l + 1) r aq ∧ aG (l + 1) r aq < aG l r x))) ∧
((¬ (l < (i.n : Int))) →
∀ (aJ : World), Chg [c] x aJ →
R (.agg #[.bool false, .bool (decide (o ≠ m)), Sl.v p, Sl.v r, .int .i64 0, Sl.v Sl.nil]) aJ))))
theorem slots_changed.ok (aj : Int) (ak : Str) (o : Str) (i : Sl) (al : Sl) (ab : Int) (ad : Str) (m : Str) (f : Sl) (af : Sl) {R : Value → World → Prop} {w : World} (bT : slots_changed.vc aj ak o i al ab ad m f af R w) : Calls Try.prog 39 #[.agg #[.int .i64 aj, .string (Bs ak), .string (Bs o), Sl.v i, Sl.v al], .agg #[.int .i64 ab, .string (Bs ad), .string (Bs m), Sl.v f, Sl.v af]] w (Ret R) := by
 refine enter [.agg #[.int .i64 aj, .string (Bs ak), .string (Bs o), Sl.v i, Sl.v al], .agg #[.int .i64 ab, .string (Bs ad), .string (Bs m), Sl.v f, Sl.v af]] Try.func39 rfl Try.ntmps39 rfl ?_
 intro a0 bU
 unfold slots_changed.vc at bT
 refine wp_seq (wp_region_lit ?_)
 refine sq (opk_new (fun B => .pointer (some ⟨B, 0, none⟩)) bU rfl (r_box (cs := [.int .i64 aj, .string (Bs ak), .string (Bs o), Sl.v i, Sl.v al]) (bU.get rfl) rfl) fun a5 w4 j dy dz bX bY _ => ?_)
 have dA : New w j w4 := dz
 have bZ : Chg [] w w4 := dy
 refine sq (opk_new (fun B => .pointer (some ⟨B, 0, none⟩)) bY rfl (r_box (cs := [.int .i64 ab, .string (Bs ad), .string (Bs m), Sl.v f, Sl.v af]) (bY.get rfl) rfl) fun hx hy d bl b0 b1 dB _ => ?_)
 have dC : j ≠ d := Nat.ne_of_lt (Nat.lt_of_lt_of_le bX.lt b0.ge)
 have dD := New.of bZ b0
 have b2 := bX.ext bl
 have b3 := bZ.more bl
 have dF := dA.up bl.size
 refine sq (opk_new (fun B => .pointer (some ⟨B, 0, none⟩)) dB rfl (r_alloc (cs := [.bool false, .bool false, Sl.v Sl.nil, Sl.v Sl.nil, .int .i64 0, Sl.v Sl.nil]) ti_43 rfl) fun hz hA c aN bm b4 dG _ => ?_)
 have dH : j ≠ c := Nat.ne_of_lt (Nat.lt_of_lt_of_le b2.lt bm.ge)
 have dI : d ≠ c := Nat.ne_of_lt (Nat.lt_of_lt_of_le b1.lt bm.ge)
 have dJ := New.of b3 bm
 have bn := b2.ext aN
 have bo := b1.ext aN
 have b5 := b3.more aN
 have dK := dF.up aN.size
 have dL := dD.up aN.size
 refine sq_end ?_
 have b6 := dG.kp [(2, pB j 0), (3, pB d 0), (4, pB c 0)] rfl
 refine then_normal (wp_seq (wp_region_lit ?_))
 refine sqv b6 rfl (r_fieldAddr (b6.get rfl) Try.underlying26 rfl ti_9 (by decide)) fun _ b7 => sqv b7 rfl (r_load1 tU9 rfl (b7.get rfl) (bn.cell 2 _ rfl)) fun _ b8 => sqv b8 rfl (r_fieldAddr (b8.get rfl) Try.underlying26 rfl ti_9 (by decide)) fun _ b9 => sqv b9 rfl (r_load1 tU9 rfl (b9.get rfl) (bo.cell 2 _ rfl)) fun _ bp => sqv bp rfl (r_sneq (bp.get rfl) (bp.get rfl)) fun _ ca => sqv ca rfl (r_build (vs := #[(1, .bool (decide (o ≠ m)))]) (cells := #[.bool false, .bool (decide (o ≠ m)), Sl.v Sl.nil, Sl.v Sl.nil, .int .i64 0, Sl.v Sl.nil]) (map_arr2 (ml2_cons (ca.get rfl) (ml2_nil))) ti_43 Try.underlying43 pl_43 (by kernel_rfl)) fun _ dM => ?_
 refine sq (opk_new (fun B => .pointer (some ⟨B, 0, none⟩)) dM rfl (r_alloc (cs := [.bool false, .bool false, Sl.v Sl.nil, Sl.v Sl.nil, .int .i64 0, Sl.v Sl.nil]) ti_43 rfl) fun hB hC b az a3 cb bq _ => ?_)
 have br : j ≠ b := Nat.ne_of_lt (Nat.lt_of_lt_of_le bn.lt a3.ge)
 have a4 : d ≠ b := Nat.ne_of_lt (Nat.lt_of_lt_of_le bo.lt a3.ge)
 have aO : c ≠ b := Nat.ne_of_lt (Nat.lt_of_lt_of_le b4.lt a3.ge)
 have cc := New.of b5 a3
 have dN := bn.ext az
 have dO := bo.ext az
 have dP := b4.ext az
 have dQ := b5.more az
 have dR := dK.up az.size
 have dS := dL.up az.size
 have dT := dJ.up az.size
 refine sq (opk_store bq cb (r_store (vs := [.bool false, .bool (decide (o ≠ m)), Sl.v Sl.nil, Sl.v Sl.nil, .int .i64 0, Sl.v Sl.nil]) (bq.get rfl) (bq.get rfl) rfl ti_43 cb rfl (ones_all _ rfl)) fun hD ag av dU dV => ?_)
 have dX : Box ag b 43 [.bool false, .bool (decide (o ≠ m)), Sl.v Sl.nil, Sl.v Sl.nil, .int .i64 0, Sl.v Sl.nil] := dU
 have dY := dN.keep av (by simpa using br)
 have cd := dO.keep av (by simpa using a4)
 have dZ := dP.keep av (by simpa using aO)
 have d0 := dQ.storeNew cc av
 have d1 := dR.up av.size
 have d2 := dS.up av.size
 have d3 := dT.up av.size
 have d4 := cc.up av.size
 refine sq_end ?_
 have cf := dV.kp [(2, pB j 0), (3, pB d 0), (4, pB c 0), (5, pB b 0)] rfl
 refine then_normal (wp_seq (wp_seq (wp_region_lit ?_)))
 refine sqv cf rfl (r_fieldAddr (cf.get rfl) Try.underlying26 rfl ti_23 (by decide)) fun _ cg => sqv cg rfl (r_load1 tU23 rfl (cg.get rfl) (cd.cell 3 _ rfl)) fun _ ch => sqv ch rfl (r_len (ch.get rfl) tU23) fun _ d5 => sqv d5 rfl (r_move rfl) fun _ d6 => sq_end ?_
 have d7 := d6.kp [(2, pB j 0), (3, pB d 0), (4, pB c 0), (5, pB b 0), (21, Sl.v f), (22, .int .i64 (f.n : Int)), (23, .int .i64 0)] rfl
 refine then_normal (wp_block ?_)
 have d8 := bT ag j d c b d1 d2 d3 d4 dC dH br dI a4 aO d0
 obtain ⟨aA, aB, d9, fa⟩ := d8
 refine wp_loop_st (σ := Int × Sl × World) (fun s a w => Ag 74 a [(2, pB j 0), (3, pB d 0), (4, pB c 0), (5, pB b 0), (21, Sl.v f), (22, .int .i64 (f.n : Int)), (23, .int .i64 s.1)] ∧ Box w j 26 [.int .i64 aj, .string (Bs ak), .string (Bs o), Sl.v i, Sl.v al] ∧ Box w d 26 [.int .i64 ab, .string (Bs ad), .string (Bs m), Sl.v f, Sl.v af] ∧ Box w c 43 [.bool false, .bool false, Sl.v Sl.nil, Sl.v Sl.nil, .int .i64 0, Sl.v Sl.nil] ∧ Box w b 43 [.bool false, .bool (decide (o ≠ m)), Sl.v s.2.1, Sl.v Sl.nil, .int .i64 0, Sl.v Sl.nil] ∧ w = s.2.2 ∧ aA s.1 s.2.1 s.2.2) (fun s => aB s.1 s.2.1 s.2.2) (0, Sl.nil, ag) ⟨d7.kp [(2, pB j 0), (3, pB d 0), (4, pB c 0), (5, pB b 0), (21, Sl.v f), (22, .int .i64 (f.n : Int)), (23, .int .i64 0)] rfl, dY, cd, dZ, dX, rfl, d9⟩ ?_
 rintro ⟨k, p, u⟩ hF w_ ⟨bs, bt, bu, bv, bx, hw_, fb⟩
 have hw_ : u = w_ := hw_.symm
 subst hw_
 have ci := fa k p _ fb
 refine wp_seq (wp_region_lit ?_)
 refine sqv bs rfl (r_lss (bs.get rfl) (bs.get rfl)) fun _ fc => sq_end ?_
 have aP := fc.kp [(2, pB j 0), (3, pB d 0), (4, pB c 0), (5, pB b 0), (21, Sl.v f), (22, .int .i64 (f.n : Int)), (23, .int .i64 k), (24, .bool (decide (k < (f.n : Int))))] rfl
 refine then_normal (wp_seq ?_)
 refine wp_cond_split (aP.get rfl) (fun hc => ?_) (fun hc => ?_)
 ·have fd := ci.1 (of_decide_eq_true hc)
  clear hc
  refine wp_skip ?_
  refine then_normal (wp_seq (wp_block (wp_seq (wp_region_lit ?_))))
  obtain ⟨ff, bh, fg, fh⟩ := fd
  refine sqv aP rfl (r_indexAddr (aP.get rfl) (aP.get rfl) tU23 ti_47 ff fg) fun _ cj => ?_
  obtain ⟨ah, y, fi, fj⟩ := fh
  refine sqv cj rfl (r_loadN Try.underlying47 rfl ti_47 (cj.get rfl) fi) fun _ fk => ?_
  refine sq (opk_new (fun B => .pointer (some ⟨B, 0, none⟩)) fk rfl (r_alloc (cs := [.string (Bs []), .string (Bs [])]) ti_47 rfl) fun hG ck q aQ aR cl bz _ => ?_)
  have fl : j ≠ q := Nat.ne_of_lt (Nat.lt_of_lt_of_le bt.lt aR.ge)
  have fm : d ≠ q := Nat.ne_of_lt (Nat.lt_of_lt_of_le bu.lt aR.ge)
  have fn : c ≠ q := Nat.ne_of_lt (Nat.lt_of_lt_of_le bv.lt aR.ge)
  have cm : b ≠ q := Nat.ne_of_lt (Nat.lt_of_lt_of_le bx.lt aR.ge)
  have cn : New u q ck := aR
  have fo := bt.ext aQ
  have fp := bu.ext aQ
  have fq := bv.ext aQ
  have fr := bx.ext aQ
  have fs : Chg [] u ck := aQ
  refine sq (opk_store bz cl (r_store (vs := [.string (Bs ah), .string (Bs y)]) (bz.get rfl) (bz.get rfl) rfl ti_47 cl rfl (ones_all _ rfl)) fun hH aC aK ft fu => ?_)
  have co : Box aC q 47 [.string (Bs ah), .string (Bs y)] := ft
  have cp := fo.keep aK (by simpa using fl)
  have fv := fp.keep aK (by simpa using fm)
  have fx := fq.keep aK (by simpa using fn)
  have fy := fr.keep aK (by simpa using cm)
  have fz := fs.storeNew cn aK
  have fA := cn.up aK.size
  refine sq_end ?_
  have cq := fu.kp [(2, pB j 0), (3, pB d 0), (4, pB c 0), (5, pB b 0), (7, pB q 0), (21, Sl.v f), (22, .int .i64 (f.n : Int)), (23, .int .i64 k)] rfl
  refine then_normal (wp_seq (wp_region_lit ?_))
  refine sqv cq rfl (r_loadN (cs := [.int .i64 aj, .string (Bs ak), .string (Bs o), Sl.v i, Sl.v al]) Try.underlying26 rfl ti_26 (cq.get rfl) (cp.part 0 _ rfl)) fun _ cr => sqv cr rfl (r_fieldAddr (cr.get rfl) Try.underlying47 rfl ti_9 (by decide)) fun _ ct => sqv ct rfl (r_load1 tU9 rfl (ct.get rfl) (co.cell 0 _ rfl)) fun _ bA => ?_
  have fB := fj aC q fA  fz
  refine sq (opk_call bA rfl (r_call (args := #[.agg #[.int .i64 aj, .string (Bs ak), .string (Bs o), Sl.v i, Sl.v al], .string (Bs ah)]) Try.func65 (by decide) rfl (map_arr (ml_cons (bA.get rfl) (ml_cons (bA.get rfl) ml_nil))) rfl) fB fun hI hJ an cu _ aS hK fC => ?_)
  obtain ⟨aD, z, rfl, cv⟩ := fC
  have bB := cp.kept aS (.head _)
  have bC := fv.kept aS (.tail _ (.head _))
  have bD := fx.kept aS (.tail _ (.tail _ (.head _)))
  have hB433 := fy.kept aS (.tail _ (.tail _ (.tail _ (.head _))))
  have a6 := co.kept aS (.tail _ (.tail _ (.tail _ (.tail _ (.head _)))))
  refine sqv cu rfl (r_move (cu.get rfl)) fun _ cx => sqv cx rfl (r_extract (cx.get rfl) rfl) fun _ cy => sqv cy rfl (r_extract (cy.get rfl) rfl) fun _ cz => sqv cz rfl (r_assign (cz.get rfl)) fun _ cA => sqv cA rfl (r_assign (cA.get rfl)) fun _ fD => sq_end ?_
  have cB := fD.kp [(2, pB j 0), (3, pB d 0), (4, pB c 0), (5, pB b 0), (7, pB q 0), (8, .string (Bs aD)), (9, .bool z), (21, Sl.v f), (22, .int .i64 (f.n : Int)), (23, .int .i64 k)] rfl
  refine then_normal (wp_seq (wp_region_lit ?_))
  refine sqv cB rfl (r_move (cB.get rfl)) fun _ cC => sqv cC rfl (r_not (cC.get rfl)) fun _ cD => sqv cD rfl (r_move (cD.get rfl)) fun _ cF => ?_
  refine sq (opk_gval cF rfl rfl (g := true) (e := (!z)) rfl (fun hg => r_move (cF.get rfl)) fun hL cG _ => ?_)
  refine sq (opk_gval cG rfl rfl (g := true) (e := (!z)) rfl (fun hg => r_fieldAddr (cG.get rfl) Try.underlying47 rfl ti_9 (by decide)) fun hM cH _ => ?_)
  refine sq (opk_gval cH rfl rfl (g := true) (e := (!z)) rfl (fun hg => r_load1 tU9 rfl (cv_get (cH.get rfl) hg) (a6.cell 1 _ rfl)) fun hN bF _ => ?_)
  refine sq (opk_gval bF rfl rfl (g := true) (e := (!z)) rfl (fun hg => r_sneq (cv_get (bF.get rfl) hg) (cv_get (bF.get rfl) hg)) fun hO bG _ => ?_)
  refine sqv bG rfl (r_pick_or (g := (true && ((!z) == false))) (bG.get rfl) (bG.get rfl) (fun he => g_mkf rfl he)) fun _ fF => sq_end ?_
  have aT := fF.kp [(2, pB j 0), (3, pB d 0), (4, pB c 0), (5, pB b 0), (7, pB q 0), (21, Sl.v f), (22, .int .i64 (f.n : Int)), (23, .int .i64 k), (41, .bool ((!z) || (decide (aD ≠ y))))] rfl
  refine then_normal ?_
  refine wp_cond_split (aT.get rfl) (fun hc => ?_) (fun hc => ?_)
  ·have fG := cv.1 ((b_or_t hc).imp (fun h => (b_not_t h)) (fun h => (of_decide_eq_true h)))
   clear hc
   refine wp_region_lit ?_
   refine sqv aT rfl (r_fieldAddr (aT.get rfl) Try.underlying43 rfl ti_23 (by decide)) fun _ cI => sqv cI rfl (r_load1 tU23 rfl (cI.get rfl) (hB433.cell 2 _ rfl)) fun _ cJ => sqv cJ rfl (r_loadN (cs := [.string (Bs ah), .string (Bs y)]) Try.underlying47 rfl ti_47 (cJ.get rfl) (a6.part 0 _ rfl)) fun _ cK => ?_
   refine sq (opk_new (fun B => .slice (some ⟨B, 0, none⟩) 1 1) cK rfl (r_buildSlice (vs := #[(0, .agg #[.string (Bs ah), .string (Bs y)])]) (cs := [.string (Bs ah), .string (Bs y)]) (map_arr2 (ml2_cons (cK.get rfl) (ml2_nil))) tU23 ti_47 rfl rfl (by kernel_rfl)) fun hP ao aa aL aM fH bH _ => ?_)
   have hQ : j ≠ aa := Nat.ne_of_lt (Nat.lt_of_lt_of_le bB.lt aM.ge)
   have hR : d ≠ aa := Nat.ne_of_lt (Nat.lt_of_lt_of_le bC.lt aM.ge)
   have hS : c ≠ aa := Nat.ne_of_lt (Nat.lt_of_lt_of_le bD.lt aM.ge)
   have hT : b ≠ aa := Nat.ne_of_lt (Nat.lt_of_lt_of_le hB433.lt aM.ge)
   have hU : q ≠ aa := Nat.ne_of_lt (Nat.lt_of_lt_of_le a6.lt aM.ge)
   have fI : New an aa ao := aM
   have fJ := bB.ext aL
   have fK := bC.ext aL
   have fL := bD.ext aL
   have fM := hB433.ext aL
   have fN := a6.ext aL
   have fO : Chg [] an ao := aL
   have fP := fG ao aa fI  fO
   have fQ := fP fH
   refine sq (opk_run bH rfl (fun _ _ hr => r_append (bH.get rfl) (bH.get rfl) hr) fQ fun hV hX bi cL _ aU hY fR => ?_)
   obtain ⟨ax, rfl, fS⟩ := fR
   have fT := fJ.kept aU (.head _)
   have fU := fK.kept aU (.tail _ (.head _))
   have fV := fL.kept aU (.tail _ (.tail _ (.head _)))
   have cM := fM.kept aU (.tail _ (.tail _ (.tail _ (.head _))))
   have fX := fN.kept aU (.tail _ (.tail _ (.tail _ (.tail _ (.head _)))))
   refine sqv cL rfl (r_fieldAddr (cL.get rfl) Try.underlying43 rfl ti_23 (by decide)) fun _ bI => ?_
   refine sq (opk_store bI cM (r_store (vs := [Sl.v ax]) (bI.get rfl) (bI.get rfl) rfl ti_23 cM rfl (ones_all _ rfl)) fun hZ ap aV fY fZ => ?_)
   have f0 : Box ap b 43 [.bool false, .bool (decide (o ≠ m)), Sl.v ax, Sl.v Sl.nil, .int .i64 0, Sl.v Sl.nil] := fY
   have f1 := fT.keep aV (by simpa using br)
   have f2 := fU.keep aV (by simpa using a4)
   have f3 := fV.keep aV (by simpa using aO)
   have h0 := fX.keep aV (by simpa using cm.symm)
   have f4 : Chg [b] bi ap := aV
   refine sq_end ?_
   have cN := fZ.kp [(2, pB j 0), (3, pB d 0), (4, pB c 0), (5, pB b 0), (21, Sl.v f), (22, .int .i64 (f.n : Int)), (23, .int .i64 k)] rfl
   refine block_normal ?_
   refine then_normal (wp_region_lit ?_)
   obtain ⟨f5, f6⟩ := fS
   refine sqv cN rfl (r_addI (cN.get rfl) rfl f5) fun _ cO => sqv cO rfl (r_move (cO.get rfl)) fun _ f7 => sq_end ?_
   have f8 := f7.kp [(2, pB j 0), (3, pB d 0), (4, pB c 0), (5, pB b 0), (21, Sl.v f), (22, .int .i64 (f.n : Int)), (23, .int .i64 (k + 1))] rfl
   have cP := f6 ap    f4
   have f9 := f8.kp [(2, pB j 0), (3, pB d 0), (4, pB c 0), (5, pB b 0), (21, Sl.v f), (22, .int .i64 (f.n : Int)), (23, .int .i64 (k + 1))] rfl
   exact then_normal ⟨(k + 1, ax, ap), ⟨f9, f1, f2, f3, f0, rfl, cP.1⟩, cP.2⟩
  ·have ga := cv.2 ⟨(b_not_f (b_or_f hc).1), (of_decide_eq_false (b_or_f hc).2)⟩
   clear hc
   refine wp_skip ?_
   refine block_normal ?_
   refine then_normal (wp_region_lit ?_)
   obtain ⟨gb, cQ⟩ := ga
   refine sqv aT rfl (r_addI (aT.get rfl) rfl gb) fun _ cR => sqv cR rfl (r_move (cR.get rfl)) fun _ gc => sq_end ?_
   have gd := gc.kp [(2, pB j 0), (3, pB d 0), (4, pB c 0), (5, pB b 0), (21, Sl.v f), (22, .int .i64 (f.n : Int)), (23, .int .i64 (k + 1))] rfl
   have gf := gd.kp [(2, pB j 0), (3, pB d 0), (4, pB c 0), (5, pB b 0), (21, Sl.v f), (22, .int .i64 (f.n : Int)), (23, .int .i64 (k + 1))] rfl
   exact then_normal ⟨(k + 1, p, an), ⟨gf, bB, bC, bD, hB433, rfl, cQ.1⟩, cQ.2⟩
 ·have gg := ci.2 (of_decide_eq_false hc)
  clear hc
  refine wp_exit ?_
  refine then_exit ?_
  refine then_exit ?_
  refine block_hit ?_
  have cS := aP.kp [(2, pB j 0), (3, pB d 0), (4, pB c 0), (5, pB b 0)] rfl
  refine then_normal (wp_seq (wp_seq (wp_region_lit ?_)))
  refine sqv cS rfl (r_fieldAddr (cS.get rfl) Try.underlying26 rfl ti_23 (by decide)) fun _ cT => sqv cT rfl (r_load1 tU23 rfl (cT.get rfl) (bt.cell 3 _ rfl)) fun _ cU => sqv cU rfl (r_len (cU.get rfl) tU23) fun _ gh => sqv gh rfl (r_move rfl) fun _ gi => sq_end ?_
  have gj := gi.kp [(3, pB d 0), (4, pB c 0), (5, pB b 0), (50, Sl.v i), (51, .int .i64 (i.n : Int)), (52, .int .i64 0)] rfl
  refine then_normal (wp_block ?_)
  obtain ⟨aF, aG, gk, gl⟩ := gg
  refine wp_loop_st (σ := Int × Sl × World) (fun s a w => Ag 74 a [(3, pB d 0), (4, pB c 0), (5, pB b 0), (50, Sl.v i), (51, .int .i64 (i.n : Int)), (52, .int .i64 s.1)] ∧ Box w d 26 [.int .i64 ab, .string (Bs ad), .string (Bs m), Sl.v f, Sl.v af] ∧ Box w c 43 [.bool false, .bool false, Sl.v Sl.nil, Sl.v Sl.nil, .int .i64 0, Sl.v Sl.nil] ∧ Box w b 43 [.bool false, .bool (decide (o ≠ m)), Sl.v p, Sl.v s.2.1, .int .i64 0, Sl.v Sl.nil] ∧ w = s.2.2 ∧ aF s.1 s.2.1 s.2.2) (fun s => aG s.1 s.2.1 s.2.2) (0, Sl.nil, u) ⟨gj.kp [(3, pB d 0), (4, pB c 0), (5, pB b 0), (50, Sl.v i), (51, .int .i64 (i.n : Int)), (52, .int .i64 0)] rfl, bu, bv, bx, rfl, gk⟩ ?_
  rintro ⟨l, r, x⟩ h1 w_ ⟨bJ, cX, a7, a8, hw_, gm⟩
  have hw_ : x = w_ := hw_.symm
  subst hw_
  have cY := gl l r _ gm
  refine wp_seq (wp_region_lit ?_)
  refine sqv bJ rfl (r_lss (bJ.get rfl) (bJ.get rfl)) fun _ gn => sq_end ?_
  have aX := gn.kp [(3, pB d 0), (4, pB c 0), (5, pB b 0), (50, Sl.v i), (51, .int .i64 (i.n : Int)), (52, .int .i64 l), (53, .bool (decide (l < (i.n : Int))))] rfl
  refine then_normal (wp_seq ?_)
  refine wp_cond_split (aX.get rfl) (fun hc => ?_) (fun hc => ?_)
  ·have go := cY.1 (of_decide_eq_true hc)
   clear hc
   refine wp_skip ?_
   refine then_normal (wp_seq (wp_block (wp_seq (wp_region_lit ?_))))
   obtain ⟨gp, bj, gq, gr⟩ := go
   refine sqv aX rfl (r_indexAddr (aX.get rfl) (aX.get rfl) tU23 ti_47 gp gq) fun _ cZ => ?_
   obtain ⟨am, a2, gs, gu⟩ := gr
   refine sqv cZ rfl (r_loadN Try.underlying47 rfl ti_47 (cZ.get rfl) gs) fun _ gv => ?_
   refine sq (opk_new (fun B => .pointer (some ⟨B, 0, none⟩)) gv rfl (r_alloc (cs := [.string (Bs []), .string (Bs [])]) ti_47 rfl) fun h2 c0 t a9 ba c1 bK _ => ?_)
   have gx : d ≠ t := Nat.ne_of_lt (Nat.lt_of_lt_of_le cX.lt ba.ge)
   have gy : c ≠ t := Nat.ne_of_lt (Nat.lt_of_lt_of_le a7.lt ba.ge)
   have c2 : b ≠ t := Nat.ne_of_lt (Nat.lt_of_lt_of_le a8.lt ba.ge)
   have c3 : New x t c0 := ba
   have gz := cX.ext a9
   have gA := a7.ext a9
   have gB := a8.ext a9
   have gC : Chg [] x c0 := a9
   refine sq (opk_store bK c1 (r_store (vs := [.string (Bs am), .string (Bs a2)]) (bK.get rfl) (bK.get rfl) rfl ti_47 c1 rfl (ones_all _ rfl)) fun h3 aH aY gD gF => ?_)
   have c4 : Box aH t 47 [.string (Bs am), .string (Bs a2)] := gD
   have c5 := gz.keep aY (by simpa using gx)
   have gG := gA.keep aY (by simpa using gy)
   have gH := gB.keep aY (by simpa using c2)
   have gI := gC.storeNew c3 aY
   have gJ := c3.up aY.size
   refine sq_end ?_
   have c6 := gF.kp [(3, pB d 0), (4, pB c 0), (5, pB b 0), (11, pB t 0), (50, Sl.v i), (51, .int .i64 (i.n : Int)), (52, .int .i64 l)] rfl
   refine then_normal (wp_seq (wp_region_lit ?_))
   refine sqv c6 rfl (r_loadN (cs := [.int .i64 ab, .string (Bs ad), .string (Bs m), Sl.v f, Sl.v af]) Try.underlying26 rfl ti_26 (c6.get rfl) (c5.part 0 _ rfl)) fun _ c7 => sqv c7 rfl (r_fieldAddr (c7.get rfl) Try.underlying47 rfl ti_9 (by decide)) fun _ c8 => sqv c8 rfl (r_load1 tU9 rfl (c8.get rfl) (c4.cell 0 _ rfl)) fun _ bL => ?_
   have gK := gu aH t gJ  gI
   refine sq (opk_call bL rfl (r_call (args := #[.agg #[.int .i64 ab, .string (Bs ad), .string (Bs m), Sl.v f, Sl.v af], .string (Bs am)]) Try.func65 (by decide) rfl (map_arr (ml_cons (bL.get rfl) (ml_cons (bL.get rfl) ml_nil))) rfl) gK fun h4 h5 aq c9 _ bb h6 gL => ?_)
   obtain ⟨bS, aI, rfl, da⟩ := gL
   have bM := c5.kept bb (.head _)
   have bN := gG.kept bb (.tail _ (.head _))
   have bd := gH.kept bb (.tail _ (.tail _ (.head _)))
   have bO := c4.kept bb (.tail _ (.tail _ (.tail _ (.head _))))
   refine sqv c9 rfl (r_move (c9.get rfl)) fun _ db => sqv db rfl (r_extract (db.get rfl) rfl) fun _ dc => sqv dc rfl (r_extract (dc.get rfl) rfl) fun _ dd => sqv dd rfl (r_assign (dd.get rfl)) fun _ df => sqv df rfl (r_assign (df.get rfl)) fun _ gM => sq_end ?_
   have dg := gM.kp [(3, pB d 0), (4, pB c 0), (5, pB b 0), (11, pB t 0), (13, .bool aI), (50, Sl.v i), (51, .int .i64 (i.n : Int)), (52, .int .i64 l)] rfl
   refine then_normal (wp_seq (wp_region_lit ?_))
   refine sqv dg rfl (r_move (dg.get rfl)) fun _ dh => sqv dh rfl (r_not (dh.get rfl)) fun _ gN => sq_end ?_
   have aZ := gN.kp [(3, pB d 0), (4, pB c 0), (5, pB b 0), (11, pB t 0), (50, Sl.v i), (51, .int .i64 (i.n : Int)), (52, .int .i64 l), (64, .bool (!aI))] rfl
   refine then_normal ?_
   refine wp_cond_split (aZ.get rfl) (fun hc => ?_) (fun hc => ?_)
   ·have gO := da.1 (b_not_t hc)
    clear hc
    refine wp_region_lit ?_
    refine sqv aZ rfl (r_fieldAddr (aZ.get rfl) Try.underlying43 rfl ti_41 (by decide)) fun _ di => sqv di rfl (r_load1 tU41 rfl (di.get rfl) (bd.cell 3 _ rfl)) fun _ dj => sqv dj rfl (r_fieldAddr (dj.get rfl) Try.underlying47 rfl ti_9 (by decide)) fun _ dk => sqv dk rfl (r_load1 tU9 rfl (dk.get rfl) (bO.cell 0 _ rfl)) fun _ dl => ?_
    refine sq (opk_new (fun B => .slice (some ⟨B, 0, none⟩) 1 1) dl rfl (r_buildSlice (vs := #[(0, .string (Bs am))]) (cs := [.string (Bs am)]) (map_arr2 (ml2_cons (dl.get rfl) (ml2_nil))) tU41 ti_9 rfl rfl (by kernel_rfl)) fun h7 ar ai hE859 a1 gP bP _ => ?_)
    have h8 : d ≠ ai := Nat.ne_of_lt (Nat.lt_of_lt_of_le bM.lt a1.ge)
    have h9 : c ≠ ai := Nat.ne_of_lt (Nat.lt_of_lt_of_le bN.lt a1.ge)
    have ia : b ≠ ai := Nat.ne_of_lt (Nat.lt_of_lt_of_le bd.lt a1.ge)
    have ib : t ≠ ai := Nat.ne_of_lt (Nat.lt_of_lt_of_le bO.lt a1.ge)
    have gQ : New aq ai ar := a1
    have gR := bM.ext hE859
    have gS := bN.ext hE859
    have gT := bd.ext hE859
    have gU := bO.ext hE859
    have gV : Chg [] aq ar := hE859
    have gX := gO ar ai gQ  gV
    have gY := gX gP
    refine sq (opk_run bP rfl (fun _ _ hr => r_append (bP.get rfl) (bP.get rfl) hr) gY fun id ig bk dm _ bf ih gZ => ?_)
    obtain ⟨ay, rfl, g0⟩ := gZ
    have g1 := gR.kept bf (.head _)
    have g2 := gS.kept bf (.tail _ (.head _))
    have dn := gT.kept bf (.tail _ (.tail _ (.head _)))
    have g3 := gU.kept bf (.tail _ (.tail _ (.tail _ (.head _))))
    refine sqv dm rfl (r_fieldAddr (dm.get rfl) Try.underlying43 rfl ti_41 (by decide)) fun _ bQ => ?_
    refine sq (opk_store bQ dn (r_store (vs := [Sl.v ay]) (bQ.get rfl) (bQ.get rfl) rfl ti_41 dn rfl (ones_all _ rfl)) fun ii au bg g4 g5 => ?_)
    have g6 : Box au b 43 [.bool false, .bool (decide (o ≠ m)), Sl.v p, Sl.v ay, .int .i64 0, Sl.v Sl.nil] := g4
    have g7 := g1.keep bg (by simpa using a4)
    have g8 := g2.keep bg (by simpa using aO)
    have ij := g3.keep bg (by simpa using c2.symm)
    have g9 : Chg [b] bk au := bg
    refine sq_end ?_
    have dp := g5.kp [(3, pB d 0), (4, pB c 0), (5, pB b 0), (50, Sl.v i), (51, .int .i64 (i.n : Int)), (52, .int .i64 l)] rfl
    refine block_normal ?_
    refine then_normal (wp_region_lit ?_)
    obtain ⟨ha, hb⟩ := g0
    refine sqv dp rfl (r_addI (dp.get rfl) rfl ha) fun _ dq => sqv dq rfl (r_move (dq.get rfl)) fun _ hd => sq_end ?_
    have hf := hd.kp [(3, pB d 0), (4, pB c 0), (5, pB b 0), (50, Sl.v i), (51, .int .i64 (i.n : Int)), (52, .int .i64 (l + 1))] rfl
    have dr := hb au    g9
    have hh := hf.kp [(3, pB d 0), (4, pB c 0), (5, pB b 0), (50, Sl.v i), (51, .int .i64 (i.n : Int)), (52, .int .i64 (l + 1))] rfl
    exact then_normal ⟨(l + 1, ay, au), ⟨hh, g7, g8, g6, rfl, dr.1⟩, dr.2⟩
   ·have hi := da.2 (b_not_f hc)
    clear hc
    refine wp_skip ?_
    refine block_normal ?_
    refine then_normal (wp_region_lit ?_)
    obtain ⟨hj, ds⟩ := hi
    refine sqv aZ rfl (r_addI (aZ.get rfl) rfl hj) fun _ dt => sqv dt rfl (r_move (dt.get rfl)) fun _ hk => sq_end ?_
    have hl := hk.kp [(3, pB d 0), (4, pB c 0), (5, pB b 0), (50, Sl.v i), (51, .int .i64 (i.n : Int)), (52, .int .i64 (l + 1))] rfl
    have hm := hl.kp [(3, pB d 0), (4, pB c 0), (5, pB b 0), (50, Sl.v i), (51, .int .i64 (i.n : Int)), (52, .int .i64 (l + 1))] rfl
    exact then_normal ⟨(l + 1, r, aq), ⟨hm, bM, bN, bd, rfl, ds.1⟩, ds.2⟩
  ·have hn := cY.2 (of_decide_eq_false hc)
   clear hc
   refine wp_exit ?_
   refine then_exit ?_
   refine then_exit ?_
   refine block_hit ?_
   have du := aX.kp [(4, pB c 0), (5, pB b 0)] rfl
   refine then_normal (wp_seq (wp_region_lit ?_))
   refine sqv du rfl (r_loadN (cs := [.bool false, .bool (decide (o ≠ m)), Sl.v p, Sl.v r, .int .i64 0, Sl.v Sl.nil]) Try.underlying43 rfl ti_43 (du.get rfl) (a8.part 0 _ rfl)) fun _ bR => ?_
   refine sq (opk_store bR a7 (r_store (vs := [.bool false, .bool (decide (o ≠ m)), Sl.v p, Sl.v r, .int .i64 0, Sl.v Sl.nil]) (bR.get rfl) (bR.get rfl) rfl ti_43 a7 rfl (ones_all _ rfl)) fun ik aJ dv ho hp => ?_)
   have hq : Box aJ c 43 [.bool false, .bool (decide (o ≠ m)), Sl.v p, Sl.v r, .int .i64 0, Sl.v Sl.nil] := ho
   have il := a8.keep dv (by simpa using aO.symm)
   have hs : Chg [c] x aJ := dv
   refine sq_end ?_
   have dx := hp.kp [(4, pB c 0)] rfl
   refine then_normal ?_
   refine wp_ret ?_
   have ht := hn aJ    hs
   exact res_all (vs := [.agg #[.bool false, .bool (decide (o ≠ m)), Sl.v p, Sl.v r, .int .i64 0, Sl.v Sl.nil]]) rfl dx ⟨res_of_cell dx rfl hq Try.underlying43 rfl ti_43, trivial⟩ ht
def slots_kids.vc (d : Sl) (b : Int) (R : Value → World → Prop) (w : World) : Prop :=
(I64 (b + 1)) ∧
∃ (m : Sl → Int → World → Prop) (p : Sl → Int → World → Nat),
m Sl.nil (b + 1) w ∧
(∀ (f : Sl) (c : Int) (g : World), m f c g →
((0 : Int) ≤ b ∧ b < (d.n : Int)) ∧ ∃ r : Addr, d.a = some r ∧
∃ (k : Int), (g.cell? ((r.add (b.toNat * 10)).add 1) = some (.int .i64 k)) ∧
(I64 (b + k)) ∧
((c < (b + k)) →
∀ (h : World) (l : Nat), New g l h → Chg [] g h →
∀ (_ : Box h l 3 [.int .i64 c]),
RunK Try.prog (Builtin.append_ #[22, 22] 22 #[Sl.v f, Sl.v (Sl.mk (some ⟨l, 0, none⟩) 1 1)]) h [] (fun v o => ∃ (i : Sl), v = Sl.v i ∧
((0 : Int) ≤ c ∧ c < (d.n : Int)) ∧ ∃ t : Addr, d.a = some t ∧
∃ (j : Int), (o.cell? ((t.add (c.toNat * 10)).add 1) = some (.int .i64 j)) ∧
(I64 (c + j)) ∧
m i (c + j) o ∧ p i (c + j) o < p f c g)) ∧
((¬ (c < (b + k))) →
R (Sl.v f) g))
theorem slots_kids.ok (d : Sl) (b : Int) {R : Value → World → Prop} {w : World} (ad : slots_kids.vc d b R w) : Calls Try.prog 41 #[Sl.v d, .int .i64 b] w (Ret R) := by
 refine enter [Sl.v d, .int .i64 b] Try.func41 rfl Try.ntmps41 rfl ?_
 intro a0 aG
 unfold slots_kids.vc at ad
 refine wp_seq (wp_region_lit ?_)
 refine sqv aG rfl (r_assign rfl) fun _ aH => sq_end ?_
 have aI := aH.kp [(0, Sl.v d), (1, .int .i64 b)] rfl
 refine then_normal (wp_seq (wp_region_lit ?_))
 refine sqv aI rfl (r_assign rfl) fun _ aJ => sq_end ?_
 have af := aJ.kp [(0, Sl.v d), (1, .int .i64 b), (5, Sl.v Sl.nil)] rfl
 refine then_normal (wp_seq (wp_seq (wp_region_lit ?_)))
 refine sqv af rfl (r_move (af.get rfl)) fun _ ag => ?_
 obtain ⟨aK, aL⟩ := ad
 refine sqv ag rfl (r_addI (ag.get rfl) rfl aK) fun _ ah => sqv ah rfl (r_assign (ah.get rfl)) fun _ aM => sq_end ?_
 have aN := aM.kp [(0, Sl.v d), (1, .int .i64 b), (5, Sl.v Sl.nil), (6, .int .i64 (b + 1))] rfl
 refine then_normal (wp_block ?_)
 obtain ⟨m, p, aO, aP⟩ := aL
 refine wp_loop_st (σ := Sl × Int × World) (fun s a w => Ag 30 a [(0, Sl.v d), (1, .int .i64 b), (5, Sl.v s.1), (6, .int .i64 s.2.1)] ∧ w = s.2.2 ∧ m s.1 s.2.1 s.2.2) (fun s => p s.1 s.2.1 s.2.2) (Sl.nil, b + 1, w) ⟨aN.kp [(0, Sl.v d), (1, .int .i64 b), (5, Sl.v Sl.nil), (6, .int .i64 (b + 1))] rfl, rfl, aO⟩ ?_
 rintro ⟨f, c, g⟩ bp w_ ⟨ai, hw_, aQ⟩
 have hw_ : g = w_ := hw_.symm
 subst hw_
 have aR := aP f c _ aQ
 refine wp_seq (wp_seq (wp_region_lit ?_))
 refine sqv ai rfl (r_move (ai.get rfl)) fun _ aj => sqv aj rfl (r_move (aj.get rfl)) fun _ ak => sqv ak rfl (r_move (ak.get rfl)) fun _ al => sqv al rfl (r_move (al.get rfl)) fun _ u => ?_
 obtain ⟨aS, r, aT, aU⟩ := aR
 refine sqv u rfl (r_indexAddr (u.get rfl) (u.get rfl) tU79 ti_86 aS aT) fun _ am => sqv am rfl (r_fieldAddr (am.get rfl) Try.underlying86 rfl ti_3 (by decide)) fun _ an => ?_
 obtain ⟨k, aV, aX⟩ := aU
 refine sqv an rfl (r_load1 tU3 rfl (an.get rfl) aV) fun _ x => ?_
 obtain ⟨aY, ao⟩ := aX
 refine sqv x rfl (r_addI (x.get rfl) (x.get rfl) aY) fun _ y => sqv y rfl (r_lss (y.get rfl) (y.get rfl)) fun _ aZ => sq_end ?_
 have q := aZ.kp [(0, Sl.v d), (1, .int .i64 b), (5, Sl.v f), (6, .int .i64 c), (17, .bool (decide (c < (b + k))))] rfl
 refine then_normal ?_
 refine wp_cond_split (q.get rfl) (fun hc => ?_) (fun hc => ?_)
 ·have ht104 := ao.1 (of_decide_eq_true hc)
  clear hc
  refine wp_skip ?_
  refine then_normal (wp_seq (wp_block (wp_region_lit ?_)))
  refine sqv q rfl (r_move (q.get rfl)) fun _ ap => sqv ap rfl (r_move (ap.get rfl)) fun _ aq => ?_
  refine sq (opk_new (fun B => .slice (some ⟨B, 0, none⟩) 1 1) aq rfl (r_buildSlice (vs := #[(0, .int .i64 c)]) (cs := [.int .i64 c]) (map_arr2 (ml2_cons (aq.get rfl) (ml2_nil))) tU22 ti_3 rfl rfl (by kernel_rfl)) fun bq h l a1 a2 a3 z _ => ?_)
  have a4 : New g l h := a2
  have a5 : Chg [] g h := a1
  have a6 := ht104 h l a4  a5
  have a7 := a6 a3
  refine sq (opk_run z rfl (fun _ _ hr => r_append (z.get rfl) (z.get rfl) hr) a7 fun br bs o ar _ bt bu a8 => ?_)
  obtain ⟨i, rfl, a9⟩ := a8
  refine sqv ar rfl (r_assign (ar.get rfl)) fun _ ba => sq_end ?_
  have au := ba.kp [(0, Sl.v d), (1, .int .i64 b), (5, Sl.v i), (6, .int .i64 c)] rfl
  refine block_normal ?_
  refine then_normal (wp_region_lit ?_)
  refine sqv au rfl (r_move (au.get rfl)) fun _ av => sqv av rfl (r_move (av.get rfl)) fun _ ax => sqv ax rfl (r_move (ax.get rfl)) fun _ aa => ?_
  obtain ⟨bb, t, bd, bf⟩ := a9
  refine sqv aa rfl (r_indexAddr (aa.get rfl) (aa.get rfl) tU79 ti_86 bb bd) fun _ ay => sqv ay rfl (r_fieldAddr (ay.get rfl) Try.underlying86 rfl ti_3 (by decide)) fun _ az => ?_
  obtain ⟨j, bg, bh⟩ := bf
  refine sqv az rfl (r_load1 tU3 rfl (az.get rfl) bg) fun _ ab => ?_
  obtain ⟨bi, aA⟩ := bh
  refine sqv ab rfl (r_addI (ab.get rfl) (ab.get rfl) bi) fun _ aB => sqv aB rfl (r_assign (aB.get rfl)) fun _ bj => sq_end ?_
  have bk := bj.kp [(0, Sl.v d), (1, .int .i64 b), (5, Sl.v i), (6, .int .i64 (c + j))] rfl
  have bl := bk.kp [(0, Sl.v d), (1, .int .i64 b), (5, Sl.v i), (6, .int .i64 (c + j))] rfl
  exact then_normal ⟨(i, c + j, o), ⟨bl, rfl, aA.1⟩, aA.2⟩
 ·have bm := ao.2 (of_decide_eq_false hc)
  clear hc
  refine wp_exit ?_
  refine then_exit ?_
  refine then_exit ?_
  refine block_hit ?_
  have aC := q.kp [(5, Sl.v f)] rfl
  refine then_normal (wp_seq (wp_region_lit ?_))
  refine sqv aC rfl (r_move (aC.get rfl)) fun _ aD => sqv aD rfl (r_assign (aD.get rfl)) fun _ bn => sq_end ?_
  have aF := bn.kp [(4, Sl.v f)] rfl
  refine then_normal ?_
  refine wp_ret ?_
  exact res_all (vs := [Sl.v f]) rfl aF ⟨res_of_tmp aF rfl, trivial⟩ bm
end Go.Proofs.Yteohbfaechfliaa
