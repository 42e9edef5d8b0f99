/-
  PRINTED BY PROGRAM: for each function its condition (vc), and that this suffices (ok).
-/
import Derived.Test.YteacalmdpoblpaaGreatQCodecBaseGT
namespace Go.Proofs.YteacalmdpoblpaaGreat
open Go.RowKit
set_option linter.unusedVariables false
set_option maxHeartbeats 1000000
set_option maxRecDepth 10000
def ref18_Of.vc (i : Int) (j : Str) (m : Str) (f : Sl) (g : Sl) (R : Value → World → Prop) (w : World) : Prop :=
∀ (q : World) (b : Nat), New w b q → Chg [] w q →
∃ (aa : Int), (∀ w' : World, Ext q w' → Calls Tryz.prog 48 #[.string (Bs j)] w' (Ret fun v w'' => Ext w' w'' ∧ v = .int .u64 aa)) ∧
∃ (o : Int), (∀ w' : World, Ext q w' → Calls Tryz.prog 47 #[.int .u64 (IntKind.u64.wrap i), .int .u64 aa] w' (Ret fun v w'' => Ext w' w'' ∧ v = .int .u64 o)) ∧
∀ (ab : World), Chg [] q ab →
CallK Tryz.prog 48 #[.string (Bs m)] ab [b] (fun v w48 => ∃ (ak : Int), v = .int .u64 ak ∧
CallK Tryz.prog 47 #[.int .u64 o, .int .u64 ak] w48 [b] (fun v a1 => ∃ (ad : Int), v = .int .u64 ad ∧
CallK Tryz.prog 47 #[.int .u64 ad, .int .u64 (IntKind.u64.wrap (f.n : Int))] a1 [b] (fun v aF => ∃ (u : Int), v = .int .u64 u ∧
∃ (af : Int → Int → World → Prop) (al : Int → Int → World → Nat),
af u 0 aF ∧
(∀ (l : Int) (c : Int) (x : World), af l c x →
((c < (f.n : Int)) →
((0 : Int) ≤ c ∧ c < (f.n : Int)) ∧ ∃ aG : Addr, f.a = some aG ∧
∃ (am : Str), (x.cell? ((aG.add (c.toNat * 2)).add 0) = some (.string (Bs am))) ∧
CallK Tryz.prog 48 #[.string (Bs am)] x [b] (fun v a2 => ∃ (an : Int), v = .int .u64 an ∧
CallK Tryz.prog 47 #[.int .u64 l, .int .u64 an] a2 [b] (fun v aH => ∃ (ah : Int), v = .int .u64 ah ∧
((0 : Int) ≤ c ∧ c < (f.n : Int)) ∧ ∃ aI : Addr, f.a = some aI ∧
∃ (ao : Str), (aH.cell? ((aI.add (c.toNat * 2)).add 1) = some (.string (Bs ao))) ∧
CallK Tryz.prog 48 #[.string (Bs ao)] aH [b] (fun v a3 => ∃ (ap : Int), v = .int .u64 ap ∧
CallK Tryz.prog 47 #[.int .u64 ah, .int .u64 ap] a3 [b] (fun v aq => ∃ (r : Int), v = .int .u64 r ∧
(I64 (c + 1)) ∧
af r (c + 1) aq ∧ al r (c + 1) aq < al l c x))))) ∧
((¬ (c < (f.n : Int))) →
CallK Tryz.prog 47 #[.int .u64 l, .int .u64 (IntKind.u64.wrap (g.n : Int))] x [b] (fun v aJ => ∃ (y : Int), v = .int .u64 y ∧
∃ (ai : Int → Int → World → Prop) (ar : Int → Int → World → Nat),
ai y 0 aJ ∧
(∀ (k : Int) (d : Int) (z : World), ai k d z →
((d < (g.n : Int)) →
((0 : Int) ≤ d ∧ d < (g.n : Int)) ∧ ∃ aK : Addr, g.a = some aK ∧
∃ (au : Int) (av : Str) (ax : Str) (ay : Sl) (az : Sl), (Cells z (aK.add (d.toNat * 5)) [.int .i64 au, .string (Bs av), .string (Bs ax), Sl.v ay, Sl.v az]) ∧
CallK Tryz.prog 18 #[.agg #[.int .i64 au, .string (Bs av), .string (Bs ax), Sl.v ay, Sl.v az]] z [b] (fun v w364 => ∃ (aA : Int), v = .int .u64 aA ∧
CallK Tryz.prog 47 #[.int .u64 k, .int .u64 aA] w364 [b] (fun v aB => ∃ (t : Int), v = .int .u64 t ∧
(I64 (d + 1)) ∧
ai t (d + 1) aB ∧ ar t (d + 1) aB < ar k d z))) ∧
((¬ (d < (g.n : Int))) →
R (.int .u64 k) z))))))))
theorem ref18_Of.ok (i : Int) (j : Str) (m : Str) (f : Sl) (g : Sl) {R : Value → World → Prop} {w : World} (a5 : ref18_Of.vc i j m f g R w) : Calls Tryz.prog 18 #[.agg #[.int .i64 i, .string (Bs j), .string (Bs m), Sl.v f, Sl.v g]] w (Ret R) := by
 refine enter [.agg #[.int .i64 i, .string (Bs j), .string (Bs m), Sl.v f, Sl.v g]] Tryz.func18 rfl Tryz.ntmps18 rfl ?_
 intro a0 a6
 unfold ref18_Of.vc at a5
 refine wp_seq (wp_region_lit ?_)
 refine sq (opk_new (fun B => .pointer (some ⟨B, 0, none⟩)) a6 rfl (r_box (cs := [.int .i64 i, .string (Bs j), .string (Bs m), Sl.v f, Sl.v g]) (a6.get rfl) rfl) fun a4 w3 b cg ch ci cj _ => ?_)
 have ck : New w b w3 := ch
 have cl : Chg [] w w3 := cg
 refine sqv cj rfl (r_assign rfl) fun _ cm => sq_end ?_
 have p := cm.kp [(1, .pointer (some (⟨b, 0, none⟩ : Addr)))] rfl
 refine then_normal (wp_seq ?_)
 refine draw' (by kernel_rfl) fun q aL => ?_
 have aM := ci.ext aL
 have cn := cl.more aL
 have co := ck.up aL.size
 have cp := a5 q b co  cn
 obtain ⟨aa, cq, cr⟩ := cp
 obtain ⟨o, ct, cu⟩ := cr
 refine par (D := [[], [0], [0, 1], [], [3], [3, 4], [0, 1, 2, 3, 4, 5], [0, 1, 2, 3, 4, 5, 6]]) (S := [0, 1, 2, 3, 4, 5, 6, 7]) (F := []) (V := VL [(0, fun v _ => v = .pointer (some (⟨b, 0, none⟩ : Addr))), (1, fun v _ => v = .int .i64 i), (2, fun v _ => v = .int .u64 (IntKind.u64.wrap i)), (3, fun v _ => v = .pointer (some (⟨b, 1, none⟩ : Addr))), (4, fun v _ => v = .string (Bs j)), (5, fun v _ => v = .int .u64 aa), (6, fun v _ => v = .int .u64 o), (7, fun v _ => v = .int .u64 o)]) p (by kernel_rfl) ⟨fun _ _ _ _ h => h, fun _ _ _ _ h => h, fun _ _ _ _ h => h, fun _ _ _ _ h => h, fun _ _ _ _ h => h, fun _ _ _ _ h => h, fun _ _ _ _ h => h, fun _ _ _ _ h => h, trivial⟩ ⟨?_, ?_, ?_, ?_, ?_, ?_, ?_, ?_, trivial⟩ ?_
 ·intro a w hT
  have hAp := hT.ag p [(1, .pointer (some (⟨b, 0, none⟩ : Addr)))] ⟨rfl, trivial⟩ (by kernel_rfl)
  exact ovr hAp rfl (r_fieldAddr (hAp.get rfl) Tryz.underlying39 rfl ti_3 (by decide)) fun _ => Eq.refl _
 ·intro a w hT
  have hAp := hT.ag p [] trivial (by kernel_rfl)
  have cv : a.tmps.getD 6 undef = .pointer (some (⟨b, 0, none⟩ : Addr)) := hT.vals 0 rfl 6 rfl
  have hAp := hAp.add cv
  exact ovr hAp rfl (r_load1 tU3 rfl (hAp.get rfl) ((aM.ext hT.chg).cell 0 _ rfl)) fun _ => Eq.refl _
 ·intro a w hT
  have hAp := hT.ag p [] trivial (by kernel_rfl)
  have cx : a.tmps.getD 7 undef = .int .i64 i := hT.vals 1 rfl 7 rfl
  have hAp := hAp.add cx
  exact ovr hAp rfl (r_conv (hAp.get rfl) rfl tU22) fun _ => Eq.refl _
 ·intro a w hT
  have hAp := hT.ag p [(1, .pointer (some (⟨b, 0, none⟩ : Addr)))] ⟨rfl, trivial⟩ (by kernel_rfl)
  exact ovr hAp rfl (r_fieldAddr (hAp.get rfl) Tryz.underlying39 rfl ti_9 (by decide)) fun _ => Eq.refl _
 ·intro a w hT
  have hAp := hT.ag p [] trivial (by kernel_rfl)
  have cy : a.tmps.getD 9 undef = .pointer (some (⟨b, 1, none⟩ : Addr)) := hT.vals 3 rfl 9 rfl
  have hAp := hAp.add cy
  exact ovr hAp rfl (r_load1 tU9 rfl (hAp.get rfl) ((aM.ext hT.chg).cell 1 _ rfl)) fun _ => Eq.refl _
 ·intro a w hT
  have hAp := hT.ag p [] trivial (by kernel_rfl)
  have cz : a.tmps.getD 10 undef = .string (Bs j) := hT.vals 4 rfl 10 rfl
  have hAp := hAp.add cz
  exact opk_callX hAp rfl (r_call (args := #[.string (Bs j)]) Tryz.func48 (by decide) rfl (map_arr (ml_cons (hAp.get rfl) ml_nil)) rfl) (cq w hT.chg) fun _ _ _ _ e hR => ⟨_, e, hR.1, fun _ => hR.2⟩
 ·intro a w hT
  have hAp := hT.ag p [] trivial (by kernel_rfl)
  have cA : a.tmps.getD 8 undef = .int .u64 (IntKind.u64.wrap i) := hT.vals 2 rfl 8 rfl
  have hAp := hAp.add cA
  have cB : a.tmps.getD 11 undef = .int .u64 aa := hT.vals 5 rfl 11 rfl
  have hAp := hAp.add cB
  exact opk_callX hAp rfl (r_call (args := #[.int .u64 (IntKind.u64.wrap i), .int .u64 aa]) Tryz.func47 (by decide) rfl (map_arr (ml_cons (hAp.get rfl) (ml_cons (hAp.get rfl) ml_nil))) rfl) (ct w hT.chg) fun _ _ _ _ e hR => ⟨_, e, hR.1, fun _ => hR.2⟩
 ·intro a w hT
  have hAp := hT.ag p [] trivial (by kernel_rfl)
  have cC : a.tmps.getD 12 undef = .int .u64 o := hT.vals 6 rfl 12 rfl
  have hAp := hAp.add cC
  exact ovr hAp rfl (r_assign (hAp.get rfl)) fun _ => Eq.refl _
 ·intro cD ab a8 cF cG
  have cH := cF [(1, .pointer (some (⟨b, 0, none⟩ : Addr)))] ⟨rfl, trivial⟩ (by kernel_rfl)
  have cI : cD.tmps.getD 3 undef = .int .u64 o := cG 7 rfl 3 rfl
  have cJ := cH.add cI
  have a9 := aM.ext a8
  have cK : Chg [] q ab := a8
  refine PR_end (by kernel_rfl) ?_
  have ba := cJ.kp [(1, .pointer (some (⟨b, 0, none⟩ : Addr))), (3, .int .u64 o)] rfl
  refine then_normal (wp_seq (wp_region_lit ?_))
  refine sqv ba rfl (r_move (ba.get rfl)) fun _ bb => sqv bb rfl (r_fieldAddr (bb.get rfl) Tryz.underlying39 rfl ti_9 (by decide)) fun _ bd => sqv bd rfl (r_load1 tU9 rfl (bd.get rfl) (a9.cell 2 _ rfl)) fun _ bf => ?_
  have cL := cu ab    cK
  refine sq (opk_call bf rfl (r_call (args := #[.string (Bs m)]) Tryz.func48 (by decide) rfl (map_arr (ml_cons (bf.get rfl) ml_nil)) rfl) cL fun fk fl w48 aN _ cM fm cN => ?_)
  obtain ⟨ak, rfl, cO⟩ := cN
  have cP := a9.kept cM (.head _)
  refine sq (opk_call aN rfl (r_call (args := #[.int .u64 o, .int .u64 ak]) Tryz.func47 (by decide) rfl (map_arr (ml_cons (aN.get rfl) (ml_cons (aN.get rfl) ml_nil))) rfl) cO fun fn fo a1 bg _ cQ fp cR => ?_)
  obtain ⟨ad, rfl, cS⟩ := cR
  have bh := cP.kept cQ (.head _)
  refine sqv bg rfl (r_assign (bg.get rfl)) fun _ cT => sq_end ?_
  have bi := cT.kp [(1, .pointer (some (⟨b, 0, none⟩ : Addr))), (3, .int .u64 ad)] rfl
  refine then_normal (wp_seq (wp_region_lit ?_))
  refine sqv bi rfl (r_move (bi.get rfl)) fun _ bj => sqv bj rfl (r_fieldAddr (bj.get rfl) Tryz.underlying39 rfl ti_36 (by decide)) fun _ bk => sqv bk rfl (r_load1 tU36 rfl (bk.get rfl) (bh.cell 3 _ rfl)) fun _ bl => sqv bl rfl (r_len (bl.get rfl) tU36) fun _ bm => sqv bm rfl (r_conv (bm.get rfl) rfl tU22) fun _ aO => ?_
  refine sq (opk_call aO rfl (r_call (args := #[.int .u64 ad, .int .u64 (IntKind.u64.wrap (f.n : Int))]) Tryz.func47 (by decide) rfl (map_arr (ml_cons (aO.get rfl) (ml_cons (aO.get rfl) ml_nil))) rfl) cS fun fq fr aF bn _ cU fs cX => ?_)
  obtain ⟨u, rfl, cY⟩ := cX
  have cZ := bh.kept cU (.head _)
  refine sqv bn rfl (r_assign (bn.get rfl)) fun _ c0 => sq_end ?_
  have c1 := c0.kp [(1, .pointer (some (⟨b, 0, none⟩ : Addr))), (3, .int .u64 u)] rfl
  refine then_normal (wp_seq (wp_seq (wp_region_lit ?_)))
  refine sqv c1 rfl (r_assign rfl) fun _ c2 => sq_end ?_
  have c3 := c2.kp [(1, .pointer (some (⟨b, 0, none⟩ : Addr))), (3, .int .u64 u), (4, .int .i64 0)] rfl
  refine then_normal (wp_block ?_)
  obtain ⟨af, al, c4, c5⟩ := cY
  refine wp_loop_st (σ := Int × Int × World) (fun s a w => Ag 71 a [(1, .pointer (some (⟨b, 0, none⟩ : Addr))), (3, .int .u64 s.1), (4, .int .i64 s.2.1)] ∧ Box w b 39 [.int .i64 i, .string (Bs j), .string (Bs m), Sl.v f, Sl.v g] ∧ w = s.2.2 ∧ af s.1 s.2.1 s.2.2) (fun s => al s.1 s.2.1 s.2.2) (u, 0, aF) ⟨c3.kp [(1, .pointer (some (⟨b, 0, none⟩ : Addr))), (3, .int .u64 u), (4, .int .i64 0)] rfl, cZ, rfl, c4⟩ ?_
  rintro ⟨l, c, x⟩ ft w_ ⟨bo, aj, hw_, c6⟩
  have hw_ : x = w_ := hw_.symm
  subst hw_
  have bp := c5 l c _ c6
  refine wp_seq (wp_seq (wp_region_lit ?_))
  refine sqv bo rfl (r_move (bo.get rfl)) fun _ bq => sqv bq rfl (r_fieldAddr (bq.get rfl) Tryz.underlying39 rfl ti_36 (by decide)) fun _ br => sqv br rfl (r_load1 tU36 rfl (br.get rfl) (aj.cell 3 _ rfl)) fun _ bs => sqv bs rfl (r_len (bs.get rfl) tU36) fun _ aP => sqv aP rfl (r_lss (aP.get rfl) (aP.get rfl)) fun _ c7 => sq_end ?_
  have aC := c7.kp [(1, .pointer (some (⟨b, 0, none⟩ : Addr))), (3, .int .u64 l), (4, .int .i64 c), (28, .bool (decide (c < (f.n : Int))))] rfl
  refine then_normal ?_
  refine wp_cond_split (aC.get rfl) (fun hc => ?_) (fun hc => ?_)
  ·have c8 := bp.1 (of_decide_eq_true hc)
   clear hc
   refine wp_skip ?_
   refine then_normal (wp_seq (wp_block (wp_seq (wp_region_lit ?_))))
   refine sqv aC rfl (r_move (aC.get rfl)) fun _ bt => sqv bt rfl (r_fieldAddr (bt.get rfl) Tryz.underlying39 rfl ti_36 (by decide)) fun _ bu => sqv bu rfl (r_load1 tU36 rfl (bu.get rfl) (aj.cell 3 _ rfl)) fun _ bv => sqv bv rfl (r_move (bv.get rfl)) fun _ aQ => ?_
   obtain ⟨c9, aG, da, db⟩ := c8
   refine sqv aQ rfl (r_indexAddr (aQ.get rfl) (aQ.get rfl) tU36 ti_91 c9 da) fun _ bx => sqv bx rfl (r_fieldAddr (bx.get rfl) Tryz.underlying91 rfl ti_9 (by decide)) fun _ bz => ?_
   obtain ⟨am, dc, dd⟩ := db
   refine sqv bz rfl (r_load1 tU9 rfl (bz.get rfl) dc) fun _ bA => ?_
   refine sq (opk_call bA rfl (r_call (args := #[.string (Bs am)]) Tryz.func48 (by decide) rfl (map_arr (ml_cons (bA.get rfl) ml_nil)) rfl) dd fun fu fv a2 aR _ df fx dg => ?_)
   obtain ⟨an, rfl, dh⟩ := dg
   have di := aj.kept df (.head _)
   refine sq (opk_call aR rfl (r_call (args := #[.int .u64 l, .int .u64 an]) Tryz.func47 (by decide) rfl (map_arr (ml_cons (aR.get rfl) (ml_cons (aR.get rfl) ml_nil))) rfl) dh fun fy fz aH bB _ dj fA dk => ?_)
   obtain ⟨ah, rfl, dl⟩ := dk
   have bC := di.kept dj (.head _)
   refine sqv bB rfl (r_assign (bB.get rfl)) fun _ dm => sq_end ?_
   have bD := dm.kp [(1, .pointer (some (⟨b, 0, none⟩ : Addr))), (3, .int .u64 ah), (4, .int .i64 c)] rfl
   refine then_normal (wp_region_lit ?_)
   refine sqv bD rfl (r_move (bD.get rfl)) fun _ bF => sqv bF rfl (r_fieldAddr (bF.get rfl) Tryz.underlying39 rfl ti_36 (by decide)) fun _ bG => sqv bG rfl (r_load1 tU36 rfl (bG.get rfl) (bC.cell 3 _ rfl)) fun _ bH => sqv bH rfl (r_move (bH.get rfl)) fun _ aS => ?_
   obtain ⟨dn, aI, dp, dq⟩ := dl
   refine sqv aS rfl (r_indexAddr (aS.get rfl) (aS.get rfl) tU36 ti_91 dn dp) fun _ bI => sqv bI rfl (r_fieldAddr (bI.get rfl) Tryz.underlying91 rfl ti_9 (by decide)) fun _ bJ => ?_
   obtain ⟨ao, dr, ds⟩ := dq
   refine sqv bJ rfl (r_load1 tU9 rfl (bJ.get rfl) dr) fun _ bK => ?_
   refine sq (opk_call bK rfl (r_call (args := #[.string (Bs ao)]) Tryz.func48 (by decide) rfl (map_arr (ml_cons (bK.get rfl) ml_nil)) rfl) ds fun fB fC a3 aT _ dt fD du => ?_)
   obtain ⟨ap, rfl, dv⟩ := du
   have dx := bC.kept dt (.head _)
   refine sq (opk_call aT rfl (r_call (args := #[.int .u64 ah, .int .u64 ap]) Tryz.func47 (by decide) rfl (map_arr (ml_cons (aT.get rfl) (ml_cons (aT.get rfl) ml_nil))) rfl) dv fun fF fG aq bL _ dy fH dz => ?_)
   obtain ⟨r, rfl, dA⟩ := dz
   have dB := dx.kept dy (.head _)
   refine sqv bL rfl (r_assign (bL.get rfl)) fun _ dC => sq_end ?_
   have bM := dC.kp [(1, .pointer (some (⟨b, 0, none⟩ : Addr))), (3, .int .u64 r), (4, .int .i64 c)] rfl
   refine block_normal ?_
   refine then_normal (wp_region_lit ?_)
   refine sqv bM rfl (r_move (bM.get rfl)) fun _ bN => ?_
   obtain ⟨dD, bO⟩ := dA
   refine sqv bN rfl (r_addI (bN.get rfl) rfl dD) fun _ bP => sqv bP rfl (r_assign (bP.get rfl)) fun _ dF => sq_end ?_
   have dG := dF.kp [(1, .pointer (some (⟨b, 0, none⟩ : Addr))), (3, .int .u64 r), (4, .int .i64 (c + 1))] rfl
   have dH := dG.kp [(1, .pointer (some (⟨b, 0, none⟩ : Addr))), (3, .int .u64 r), (4, .int .i64 (c + 1))] rfl
   exact then_normal ⟨(r, c + 1, aq), ⟨dH, dB, rfl, bO.1⟩, bO.2⟩
  ·have dI := bp.2 (of_decide_eq_false hc)
   clear hc
   refine wp_exit ?_
   refine then_exit ?_
   refine then_exit ?_
   refine block_hit ?_
   have bQ := aC.kp [(1, .pointer (some (⟨b, 0, none⟩ : Addr))), (3, .int .u64 l)] rfl
   refine then_normal (wp_seq (wp_region_lit ?_))
   refine sqv bQ rfl (r_move (bQ.get rfl)) fun _ bR => sqv bR rfl (r_fieldAddr (bR.get rfl) Tryz.underlying39 rfl ti_37 (by decide)) fun _ bS => sqv bS rfl (r_load1 tU37 rfl (bS.get rfl) (aj.cell 4 _ rfl)) fun _ bT => sqv bT rfl (r_len (bT.get rfl) tU37) fun _ bU => sqv bU rfl (r_conv (bU.get rfl) rfl tU22) fun _ aU => ?_
   refine sq (opk_call aU rfl (r_call (args := #[.int .u64 l, .int .u64 (IntKind.u64.wrap (g.n : Int))]) Tryz.func47 (by decide) rfl (map_arr (ml_cons (aU.get rfl) (ml_cons (aU.get rfl) ml_nil))) rfl) dI fun fI fJ aJ bV _ dJ fK dK => ?_)
   obtain ⟨y, rfl, dL⟩ := dK
   have dM := aj.kept dJ (.head _)
   refine sqv bV rfl (r_assign (bV.get rfl)) fun _ dN => sq_end ?_
   have dO := dN.kp [(1, .pointer (some (⟨b, 0, none⟩ : Addr))), (3, .int .u64 y)] rfl
   refine then_normal (wp_seq (wp_seq (wp_region_lit ?_)))
   refine sqv dO rfl (r_assign rfl) fun _ dP => sq_end ?_
   have dQ := dP.kp [(1, .pointer (some (⟨b, 0, none⟩ : Addr))), (3, .int .u64 y), (5, .int .i64 0)] rfl
   refine then_normal (wp_block ?_)
   obtain ⟨ai, ar, dR, dS⟩ := dL
   refine wp_loop_st (σ := Int × Int × World) (fun s a w => Ag 71 a [(1, .pointer (some (⟨b, 0, none⟩ : Addr))), (3, .int .u64 s.1), (5, .int .i64 s.2.1)] ∧ Box w b 39 [.int .i64 i, .string (Bs j), .string (Bs m), Sl.v f, Sl.v g] ∧ w = s.2.2 ∧ ai s.1 s.2.1 s.2.2) (fun s => ar s.1 s.2.1 s.2.2) (y, 0, aJ) ⟨dQ.kp [(1, .pointer (some (⟨b, 0, none⟩ : Addr))), (3, .int .u64 y), (5, .int .i64 0)] rfl, dM, rfl, dR⟩ ?_
   rintro ⟨k, d, z⟩ fL w_ ⟨bX, aV, hw_, dT⟩
   have hw_ : z = w_ := hw_.symm
   subst hw_
   have bY := dS k d _ dT
   refine wp_seq (wp_seq (wp_region_lit ?_))
   refine sqv bX rfl (r_move (bX.get rfl)) fun _ bZ => sqv bZ rfl (r_fieldAddr (bZ.get rfl) Tryz.underlying39 rfl ti_37 (by decide)) fun _ b0 => sqv b0 rfl (r_load1 tU37 rfl (b0.get rfl) (aV.cell 4 _ rfl)) fun _ b1 => sqv b1 rfl (r_len (b1.get rfl) tU37) fun _ aX => sqv aX rfl (r_lss (aX.get rfl) (aX.get rfl)) fun _ dU => sq_end ?_
   have aD := dU.kp [(1, .pointer (some (⟨b, 0, none⟩ : Addr))), (3, .int .u64 k), (5, .int .i64 d), (59, .bool (decide (d < (g.n : Int))))] rfl
   refine then_normal ?_
   refine wp_cond_split (aD.get rfl) (fun hc => ?_) (fun hc => ?_)
   ·have dV := bY.1 (of_decide_eq_true hc)
    clear hc
    refine wp_skip ?_
    refine then_normal (wp_seq (wp_block (wp_region_lit ?_)))
    refine sqv aD rfl (r_move (aD.get rfl)) fun _ b2 => sqv b2 rfl (r_fieldAddr (b2.get rfl) Tryz.underlying39 rfl ti_37 (by decide)) fun _ b3 => sqv b3 rfl (r_load1 tU37 rfl (b3.get rfl) (aV.cell 4 _ rfl)) fun _ b4 => sqv b4 rfl (r_move (b4.get rfl)) fun _ aY => ?_
    obtain ⟨dX, aK, dY, dZ⟩ := dV
    refine sqv aY rfl (r_indexAddr (aY.get rfl) (aY.get rfl) tU37 ti_39 dX dY) fun _ b5 => ?_
    obtain ⟨au, av, ax, ay, az, d0, d1⟩ := dZ
    refine sqv b5 rfl (r_loadN Tryz.underlying39 rfl ti_39 (b5.get rfl) d0) fun _ b6 => ?_
    refine sq (opk_call b6 rfl (r_call (args := #[.agg #[.int .i64 au, .string (Bs av), .string (Bs ax), Sl.v ay, Sl.v az]]) Tryz.func18 (by decide) rfl (map_arr (ml_cons (b6.get rfl) ml_nil)) rfl) d1 fun fM fN w364 aZ _ d2 fO d3 => ?_)
    obtain ⟨aA, rfl, d4⟩ := d3
    have d5 := aV.kept d2 (.head _)
    refine sq (opk_call aZ rfl (r_call (args := #[.int .u64 k, .int .u64 aA]) Tryz.func47 (by decide) rfl (map_arr (ml_cons (aZ.get rfl) (ml_cons (aZ.get rfl) ml_nil))) rfl) d4 fun fP fQ aB b7 _ d6 fR d7 => ?_)
    obtain ⟨t, rfl, d8⟩ := d7
    have d9 := d5.kept d6 (.head _)
    refine sqv b7 rfl (r_assign (b7.get rfl)) fun _ fa => sq_end ?_
    have b8 := fa.kp [(1, .pointer (some (⟨b, 0, none⟩ : Addr))), (3, .int .u64 t), (5, .int .i64 d)] rfl
    refine block_normal ?_
    refine then_normal (wp_region_lit ?_)
    refine sqv b8 rfl (r_move (b8.get rfl)) fun _ b9 => ?_
    obtain ⟨fb, ca⟩ := d8
    refine sqv b9 rfl (r_addI (b9.get rfl) rfl fb) fun _ cb => sqv cb rfl (r_assign (cb.get rfl)) fun _ fc => sq_end ?_
    have fd := fc.kp [(1, .pointer (some (⟨b, 0, none⟩ : Addr))), (3, .int .u64 t), (5, .int .i64 (d + 1))] rfl
    have ff := fd.kp [(1, .pointer (some (⟨b, 0, none⟩ : Addr))), (3, .int .u64 t), (5, .int .i64 (d + 1))] rfl
    exact then_normal ⟨(t, d + 1, aB), ⟨ff, d9, rfl, ca.1⟩, ca.2⟩
   ·have fg := bY.2 (of_decide_eq_false hc)
    clear hc
    refine wp_exit ?_
    refine then_exit ?_
    refine then_exit ?_
    refine block_hit ?_
    have cc := aD.kp [(3, .int .u64 k)] rfl
    refine then_normal (wp_seq (wp_region_lit ?_))
    refine sqv cc rfl (r_move (cc.get rfl)) fun _ cd => sqv cd rfl (r_assign (cd.get rfl)) fun _ fh => sq_end ?_
    have cf := fh.kp [(2, .int .u64 k)] rfl
    refine then_normal ?_
    refine wp_ret ?_
    exact res_all (vs := [.int .u64 k]) rfl cf ⟨res_of_tmp cf rfl, trivial⟩ fg
def ref18_Text.vc (b : Str) (R : Value → World → Prop) (w : World) : Prop :=
∃ (h : Int → Int → World → Prop) (i : Int → Int → World → Nat),
h (IntKind.u64.wrap (b.length : Int)) 0 w ∧
(∀ (d : Int) (c : Int) (g : World), h d c g →
((c < (b.length : Int)) →
(I64 (c + 8)) ∧
((0 : Int) ≤ c ∧ (c : Int) ≤ min (c + 8) (b.length : Int) ∧ min (c + 8) (b.length : Int) ≤ (b.length : Int)) ∧
RunK Tryz.prog (convert 9 27 (.string (Bs ((List.drop c.toNat b).take ((min (c + 8) (b.length : Int)).toNat - c.toNat))))) g [] (fun v r => ∃ (j : Sl), v = Sl.v j ∧
CallK Tryz.prog 22 #[Sl.v j] r [] (fun v t => ∃ (k : Int), v = .int .u64 k ∧
CallK Tryz.prog 47 #[.int .u64 d, .int .u64 k] t [] (fun v l => ∃ (f : Int), v = .int .u64 f ∧
(I64 (c + 8)) ∧
h f (c + 8) l ∧ i f (c + 8) l < i d c g)))) ∧
((¬ (c < (b.length : Int))) →
R (.int .u64 d) g))
theorem ref18_Text.ok (b : Str) {R : Value → World → Prop} {w : World} (u : ref18_Text.vc b R w) : Calls Tryz.prog 48 #[.string (Bs b)] w (Ret R) := by
 refine enter [.string (Bs b)] Tryz.func48 rfl Tryz.ntmps48 rfl ?_
 intro a0 aA
 unfold ref18_Text.vc at u
 refine wp_seq (wp_region_lit ?_)
 refine sqv aA rfl (r_assign rfl) fun _ aB => sq_end ?_
 have x := aB.kp [(0, .string (Bs b))] rfl
 refine then_normal (wp_seq (wp_region_lit ?_))
 refine sqv x rfl (r_move (x.get rfl)) fun _ y => sqv y rfl (r_slen (y.get rfl) tU9) fun _ z => sqv z rfl (r_conv (z.get rfl) rfl tU22) fun _ aa => sqv aa rfl (r_assign (aa.get rfl)) fun _ aC => sq_end ?_
 have aD := aC.kp [(0, .string (Bs b)), (3, .int .u64 (IntKind.u64.wrap (b.length : Int)))] rfl
 refine then_normal (wp_seq (wp_seq (wp_region_lit ?_)))
 refine sqv aD rfl (r_assign rfl) fun _ aF => sq_end ?_
 have aG := aF.kp [(0, .string (Bs b)), (3, .int .u64 (IntKind.u64.wrap (b.length : Int))), (4, .int .i64 0)] rfl
 refine then_normal (wp_block ?_)
 obtain ⟨h, i, aH, aI⟩ := u
 refine wp_loop_st (σ := Int × Int × World) (fun s a w => Ag 27 a [(0, .string (Bs b)), (3, .int .u64 s.1), (4, .int .i64 s.2.1)] ∧ w = s.2.2 ∧ h s.1 s.2.1 s.2.2) (fun s => i s.1 s.2.1 s.2.2) (IntKind.u64.wrap (b.length : Int), 0, w) ⟨aG.kp [(0, .string (Bs b)), (3, .int .u64 (IntKind.u64.wrap (b.length : Int))), (4, .int .i64 0)] rfl, rfl, aH⟩ ?_
 rintro ⟨d, c, g⟩ a5 w_ ⟨ab, hw_, aJ⟩
 have hw_ : g = w_ := hw_.symm
 subst hw_
 have ad := aI d c _ aJ
 refine wp_seq (wp_seq (wp_region_lit ?_))
 refine sqv ab rfl (r_move (ab.get rfl)) fun _ af => sqv af rfl (r_move (af.get rfl)) fun _ ag => sqv ag rfl (r_slen (ag.get rfl) tU9) fun _ o => sqv o rfl (r_lss (o.get rfl) (o.get rfl)) fun _ aK => sq_end ?_
 have m := aK.kp [(0, .string (Bs b)), (3, .int .u64 d), (4, .int .i64 c), (11, .bool (decide (c < (b.length : Int))))] rfl
 refine then_normal ?_
 refine wp_cond_split (m.get rfl) (fun hc => ?_) (fun hc => ?_)
 ·have aL := ad.1 (of_decide_eq_true hc)
  clear hc
  refine wp_skip ?_
  refine then_normal (wp_seq (wp_block (wp_region_lit ?_)))
  refine sqv m rfl (r_move (m.get rfl)) fun _ ah => sqv ah rfl (r_move (ah.get rfl)) fun _ ai => sqv ai rfl (r_move (ai.get rfl)) fun _ aj => sqv aj rfl (r_move (aj.get rfl)) fun _ ak => ?_
  obtain ⟨aM, aN⟩ := aL
  refine sqv ak rfl (r_addI (ak.get rfl) rfl aM) fun _ al => sqv al rfl (r_move (al.get rfl)) fun _ am => sqv am rfl (r_slen (am.get rfl) tU9) fun _ p => sqv p rfl (r_min (p.get rfl) (p.get rfl)) fun _ n => ?_
  obtain ⟨aO, aP⟩ := aN
  refine sqv n rfl (r_sslice2 (n.get rfl) (n.get rfl) (n.get rfl) tU9 aO) fun _ an => ?_
  refine sq (opk_run an rfl (fun _ _ hr => r_convR (an.get rfl) hr) aP fun a6 a7 r ao _ a8 a9 aQ => ?_)
  obtain ⟨j, rfl, aR⟩ := aQ
  refine sq (opk_call ao rfl (r_call (args := #[Sl.v j]) Tryz.func22 (by decide) rfl (map_arr (ml_cons (ao.get rfl) ml_nil)) rfl) aR fun ba bb t q _ bd bf aS => ?_)
  obtain ⟨k, rfl, aT⟩ := aS
  refine sq (opk_call q rfl (r_call (args := #[.int .u64 d, .int .u64 k]) Tryz.func47 (by decide) rfl (map_arr (ml_cons (q.get rfl) (ml_cons (q.get rfl) ml_nil))) rfl) aT fun bg bh l ap _ bi bj aU => ?_)
  obtain ⟨f, rfl, aV⟩ := aU
  refine sqv ap rfl (r_assign (ap.get rfl)) fun _ aX => sq_end ?_
  have aq := aX.kp [(0, .string (Bs b)), (3, .int .u64 f), (4, .int .i64 c)] rfl
  refine block_normal ?_
  refine then_normal (wp_region_lit ?_)
  refine sqv aq rfl (r_move (aq.get rfl)) fun _ ar => ?_
  obtain ⟨aY, au⟩ := aV
  refine sqv ar rfl (r_addI (ar.get rfl) rfl aY) fun _ av => sqv av rfl (r_assign (av.get rfl)) fun _ aZ => sq_end ?_
  have hA125 := aZ.kp [(0, .string (Bs b)), (3, .int .u64 f), (4, .int .i64 (c + 8))] rfl
  have a1 := hA125.kp [(0, .string (Bs b)), (3, .int .u64 f), (4, .int .i64 (c + 8))] rfl
  exact then_normal ⟨(f, c + 8, l), ⟨a1, rfl, au.1⟩, au.2⟩
 ·have a2 := ad.2 (of_decide_eq_false hc)
  clear hc
  refine wp_exit ?_
  refine then_exit ?_
  refine then_exit ?_
  refine block_hit ?_
  have ax := m.kp [(3, .int .u64 d)] rfl
  refine then_normal (wp_seq (wp_region_lit ?_))
  refine sqv ax rfl (r_move (ax.get rfl)) fun _ ay => sqv ay rfl (r_assign (ay.get rfl)) fun _ a3 => sq_end ?_
  have az := a3.kp [(2, .int .u64 d)] rfl
  refine then_normal ?_
  refine wp_ret ?_
  exact res_all (vs := [.int .u64 d]) rfl az ⟨res_of_tmp az rfl, trivial⟩ a2
end Go.Proofs.YteacalmdpoblpaaGreat
