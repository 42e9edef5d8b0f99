/-
  PRINTED BY PROGRAM: for each function its condition (vc), and that this suffices (ok).
-/
import Derived.Test.YteacalmdpoblpaaGreatQCodecBaseGT
namespace Go.Proofs.YteacalmdpoblpaaGreat
open Go.RowKit
set_option linter.unusedVariables false
set_option maxHeartbeats 1000000
set_option maxRecDepth 10000
def hash_Of.vc (b : Int) (c : Str) (d : Str) (f : Sl) (g : Sl) (R : Value → World → Prop) (w : World) : Prop :=
∀ (h : World) (i : Nat), New w i h → Chg [] w h →
CallK Tryz.prog 63 #[.agg #[.int .i64 b, .string (Bs c), .string (Bs d), Sl.v f, Sl.v g]] h [i] (fun v l => ∃ (k : Sl), v = Sl.v k ∧
((0 : Int) ≤ 0 ∧ 0 < (k.n : Int)) ∧ ∃ m : Addr, k.a = some m ∧
∃ (j : Int), (l.cell? (m.add (0 * 1)) = some (.int .u64 j)) ∧
R (.int .u64 j) l)
theorem hash_Of.ok (b : Int) (c : Str) (d : Str) (f : Sl) (g : Sl) {R : Value → World → Prop} {w : World} (o : hash_Of.vc b c d f g R w) : Calls Tryz.prog 36 #[.agg #[.int .i64 b, .string (Bs c), .string (Bs d), Sl.v f, Sl.v g]] w (Ret R) := by
 refine enter [.agg #[.int .i64 b, .string (Bs c), .string (Bs d), Sl.v f, Sl.v g]] Tryz.func36 rfl Tryz.ntmps36 rfl ?_
 intro a0 p
 unfold hash_Of.vc at o
 refine wp_seq (wp_region_lit ?_)
 refine sq (opk_new (fun B => .pointer (some ⟨B, 0, none⟩)) p rfl (r_box (cs := [.int .i64 b, .string (Bs c), .string (Bs d), Sl.v f, Sl.v g]) (p.get rfl) rfl) fun a4 h i z aa q ab _ => ?_)
 have ad : New w i h := aa
 have af : Chg [] w h := z
 refine sqv ab rfl (r_assign rfl) fun _ ag => sq_end ?_
 have r := ag.kp [(1, .pointer (some (⟨i, 0, none⟩ : Addr)))] rfl
 refine then_normal (wp_seq (wp_region_lit ?_))
 refine sqv r rfl (r_loadN (cs := [.int .i64 b, .string (Bs c), .string (Bs d), Sl.v f, Sl.v g]) Tryz.underlying39 rfl ti_39 (r.get rfl) (q.part 0 _ rfl)) fun _ s => ?_
 have ah := o h i ad  af
 refine sq (opk_call s rfl (r_call (args := #[.agg #[.int .i64 b, .string (Bs c), .string (Bs d), Sl.v f, Sl.v g]]) Tryz.func63 (by decide) rfl (map_arr (ml_cons (s.get rfl) ml_nil)) rfl) ah fun av ax l t _ ai ay aj => ?_)
 obtain ⟨k, rfl, ak⟩ := aj
 have az := q.kept ai (.head _)
 obtain ⟨al, m, am, an⟩ := ak
 refine sqv t rfl (r_indexAddr (t.get rfl) rfl tU108 ti_22 al am) fun _ u => ?_
 obtain ⟨j, ao, ap⟩ := an
 refine sqv u rfl (r_load1 tU22 rfl (u.get rfl) ao) fun _ x => sqv x rfl (r_assign (x.get rfl)) fun _ aq => sq_end ?_
 have y := aq.kp [(2, .int .u64 j)] rfl
 refine then_normal ?_
 refine wp_ret ?_
 exact res_all (vs := [.int .u64 j]) rfl y ⟨res_of_tmp y rfl, trivial⟩ ap
def hash_All.vc (j : Int) (k : Str) (l : Str) (m : Sl) (o : Sl) (R : Value → World → Prop) (w : World) : Prop :=
∀ (t : World) (y : Nat), New w y t → Chg [] w t →
CallK Tryz.prog 113 #[.agg #[.int .i64 j, .string (Bs k), .string (Bs l), Sl.v m, Sl.v o]] t [y] (fun v aS => ∃ (d : Sl), v = Sl.v d ∧
RunK Tryz.prog (Instr.makeSlice 108 (.int .i64 (d.n : Int)) (.int .i64 (d.n : Int))) aS [] (fun v av => ∃ (f : Sl), v = Sl.v f ∧
(I64 ((d.n : Int) - 1)) ∧
∃ (ad : Int → World → Prop) (ai : Int → World → Nat),
ad ((d.n : Int) - 1) av ∧
(∀ (c : Int) (u : World), ad c u →
((0 ≤ c) →
(I64 (c + 1)) ∧
∃ (af : Sl → Int → World → Prop) (aj : Sl → Int → World → Nat),
af Sl.nil (c + 1) u ∧
(∀ (i : Sl) (g : Int) (h : World), af i g h →
((0 : Int) ≤ c ∧ c < (d.n : Int)) ∧ ∃ ax : Addr, d.a = some ax ∧
∃ (z : Int), (h.cell? ((ax.add (c.toNat * 10)).add 1) = some (.int .i64 z)) ∧
(I64 (c + z)) ∧
((g < (c + z)) →
((0 : Int) ≤ g ∧ g < (f.n : Int)) ∧ ∃ ay : Addr, f.a = some ay ∧
∃ (ag : Int), (h.cell? (ay.add (g.toNat * 1)) = some (.int .u64 ag)) ∧
∀ (p : World) (aa : Nat), New h aa p → Chg [] h p →
∀ (_ : Box p aa 22 [.int .u64 ag]),
RunK Tryz.prog (Builtin.append_ #[108, 108] 108 #[Sl.v i, Sl.v (Sl.mk (some ⟨aa, 0, none⟩) 1 1)]) p [] (fun v ah => ∃ (q : Sl), v = Sl.v q ∧
((0 : Int) ≤ g ∧ g < (d.n : Int)) ∧ ∃ az : Addr, d.a = some az ∧
∃ (r : Int), (ah.cell? ((az.add (g.toNat * 10)).add 1) = some (.int .i64 r)) ∧
(I64 (g + r)) ∧
af q (g + r) ah ∧ aj q (g + r) ah < aj i g h)) ∧
((¬ (g < (c + z))) →
((0 : Int) ≤ c ∧ c < (d.n : Int)) ∧ ∃ aA : Addr, d.a = some aA ∧
∃ (ak : Int) (al : Str) (am : Str) (an : Sl) (ao : Sl), (Cells h ((aA.add (c.toNat * 10)).add 5) [.int .i64 ak, .string (Bs al), .string (Bs am), Sl.v an, Sl.v ao]) ∧
CallK Tryz.prog 114 #[.agg #[.int .i64 ak, .string (Bs al), .string (Bs am), Sl.v an, Sl.v ao], Sl.v i] h [] (fun v aB => ∃ (ap : Int), v = .int .u64 ap ∧
((0 : Int) ≤ c ∧ c < (f.n : Int)) ∧ ∃ aC : Addr, f.a = some aC ∧
∃ (ab aq : Nat) (aD : TypeId) (ar : List Value), (aC.add (c.toNat * 1)) = ⟨ab, aq, none⟩ ∧ Box aB ab aD ar ∧ aq + 1 ≤ ar.length ∧ (∀ b ∈ [], b ≠ ab) ∧
(∀ x : World, Chg [ab] aB x → Box x ab aD (putAt ar aq [.int .u64 ap]) →
(I64 (c - 1)) ∧
ad (c - 1) x ∧ ai (c - 1) x < ai c u))))) ∧
((¬ (0 ≤ c)) →
R (Sl.v f) u))))
theorem hash_All.ok (j : Int) (k : Str) (l : Str) (m : Sl) (o : Sl) {R : Value → World → Prop} {w : World} (aT : hash_All.vc j k l m o R w) : Calls Tryz.prog 63 #[.agg #[.int .i64 j, .string (Bs k), .string (Bs l), Sl.v m, Sl.v o]] w (Ret R) := by
 refine enter [.agg #[.int .i64 j, .string (Bs k), .string (Bs l), Sl.v m, Sl.v o]] Tryz.func63 rfl Tryz.ntmps63 rfl ?_
 intro a0 aU
 unfold hash_All.vc at aT
 refine wp_seq (wp_region_lit ?_)
 refine sq (opk_new (fun B => .pointer (some ⟨B, 0, none⟩)) aU rfl (r_box (cs := [.int .i64 j, .string (Bs k), .string (Bs l), Sl.v m, Sl.v o]) (aU.get rfl) rfl) fun a4 t y bQ bR aV bS _ => ?_)
 have bT : New w y t := bR
 have bU : Chg [] w t := bQ
 refine sqv bS rfl (r_assign rfl) fun _ bV => sq_end ?_
 have aX := bV.kp [(1, .pointer (some (⟨y, 0, none⟩ : Addr)))] rfl
 refine then_normal (wp_seq (wp_region_lit ?_))
 refine sqv aX rfl (r_loadN (cs := [.int .i64 j, .string (Bs k), .string (Bs l), Sl.v m, Sl.v o]) Tryz.underlying39 rfl ti_39 (aX.get rfl) (aV.part 0 _ rfl)) fun _ aY => ?_
 have bX := aT t y bT  bU
 refine sq (opk_call aY rfl (r_call (args := #[.agg #[.int .i64 j, .string (Bs k), .string (Bs l), Sl.v m, Sl.v o]]) Tryz.func113 (by decide) rfl (map_arr (ml_cons (aY.get rfl) ml_nil)) rfl) bX fun dr ds aS aZ _ bY dt bZ => ?_)
 obtain ⟨d, rfl, b0⟩ := bZ
 have du := aV.kept bY (.head _)
 refine sqv aZ rfl (r_assign (aZ.get rfl)) fun _ b1 => sq_end ?_
 have hA24 := b1.kp [(3, Sl.v d)] rfl
 refine then_normal (wp_seq (wp_region_lit ?_))
 refine sqv hA24 rfl (r_move (hA24.get rfl)) fun _ a1 => sqv a1 rfl (r_len (a1.get rfl) tU158) fun _ aF => ?_
 refine sq (opk_run aF rfl (fun _ _ hr => r_makeSlice (aF.get rfl) (aF.get rfl) hr) b0 fun dv dx av a2 _ dy dz b2 => ?_)
 obtain ⟨f, rfl, b3⟩ := b2
 refine sqv a2 rfl (r_assign (a2.get rfl)) fun _ b4 => sq_end ?_
 have a3 := b4.kp [(3, Sl.v d), (4, Sl.v f)] rfl
 refine then_normal (wp_seq (wp_seq (wp_region_lit ?_)))
 refine sqv a3 rfl (r_move (a3.get rfl)) fun _ hA37 => sqv hA37 rfl (r_len (hA37.get rfl) tU158) fun _ a5 => ?_
 obtain ⟨b5, b6⟩ := b3
 refine sqv a5 rfl (r_subI (a5.get rfl) rfl b5) fun _ a6 => sqv a6 rfl (r_assign (a6.get rfl)) fun _ b7 => sq_end ?_
 have b8 := b7.kp [(3, Sl.v d), (4, Sl.v f), (5, .int .i64 ((d.n : Int) - 1))] rfl
 refine then_normal (wp_block ?_)
 obtain ⟨ad, ai, b9, ca⟩ := b6
 refine wp_loop_st (σ := Int × World) (fun s a w => Ag 56 a [(3, Sl.v d), (4, Sl.v f), (5, .int .i64 s.1)] ∧ w = s.2 ∧ ad s.1 s.2) (fun s => ai s.1 s.2) ((d.n : Int) - 1, av) ⟨b8.kp [(3, Sl.v d), (4, Sl.v f), (5, .int .i64 ((d.n : Int) - 1))] rfl, rfl, b9⟩ ?_
 rintro ⟨c, u⟩ dA w_ ⟨a7, hw_, cb⟩
 have hw_ : u = w_ := hw_.symm
 subst hw_
 have a8 := ca c _ cb
 refine wp_seq (wp_seq (wp_region_lit ?_))
 refine sqv a7 rfl (r_move (a7.get rfl)) fun _ a9 => sqv a9 rfl (r_geq (a9.get rfl) rfl) fun _ cc => sq_end ?_
 have aG := cc.kp [(3, Sl.v d), (4, Sl.v f), (5, .int .i64 c), (17, .bool (decide (0 ≤ c)))] rfl
 refine then_normal ?_
 refine wp_cond_split (aG.get rfl) (fun hc => ?_) (fun hc => ?_)
 ·have cd := a8.1 (of_decide_eq_true hc)
  clear hc
  refine wp_skip ?_
  refine then_normal (wp_seq (wp_block (wp_seq (wp_region_lit ?_))))
  refine sqv aG rfl (r_assign rfl) fun _ cf => sq_end ?_
  have ba := cf.kp [(3, Sl.v d), (4, Sl.v f), (5, .int .i64 c), (6, Sl.v Sl.nil)] rfl
  refine then_normal (wp_seq (wp_seq (wp_region_lit ?_)))
  refine sqv ba rfl (r_move (ba.get rfl)) fun _ bb => ?_
  obtain ⟨cg, ch⟩ := cd
  refine sqv bb rfl (r_addI (bb.get rfl) rfl cg) fun _ bd => sqv bd rfl (r_assign (bd.get rfl)) fun _ ci => sq_end ?_
  have cj := ci.kp [(3, Sl.v d), (4, Sl.v f), (5, .int .i64 c), (6, Sl.v Sl.nil), (7, .int .i64 (c + 1))] rfl
  refine then_normal (wp_block ?_)
  obtain ⟨af, aj, ck, cl⟩ := ch
  refine wp_loop_st (σ := Sl × Int × World) (fun s a w => Ag 56 a [(3, Sl.v d), (4, Sl.v f), (5, .int .i64 c), (6, Sl.v s.1), (7, .int .i64 s.2.1)] ∧ w = s.2.2 ∧ af s.1 s.2.1 s.2.2) (fun s => aj s.1 s.2.1 s.2.2) (Sl.nil, c + 1, u) ⟨cj.kp [(3, Sl.v d), (4, Sl.v f), (5, .int .i64 c), (6, Sl.v Sl.nil), (7, .int .i64 (c + 1))] rfl, rfl, ck⟩ ?_
  rintro ⟨i, g, h⟩ dB w_ ⟨bf, hw_, cm⟩
  have hw_ : h = w_ := hw_.symm
  subst hw_
  have cn := cl i g _ cm
  refine wp_seq (wp_seq (wp_region_lit ?_))
  refine sqv bf rfl (r_move (bf.get rfl)) fun _ bg => sqv bg rfl (r_move (bg.get rfl)) fun _ bh => sqv bh rfl (r_move (bh.get rfl)) fun _ bi => sqv bi rfl (r_move (bi.get rfl)) fun _ aH => ?_
  obtain ⟨co, ax, cp, cq⟩ := cn
  refine sqv aH rfl (r_indexAddr (aH.get rfl) (aH.get rfl) tU158 ti_161 co cp) fun _ bj => sqv bj rfl (r_fieldAddr (bj.get rfl) Tryz.underlying161 rfl ti_3 (by decide)) fun _ bk => ?_
  obtain ⟨z, cr, ct⟩ := cq
  refine sqv bk rfl (r_load1 tU3 rfl (bk.get rfl) cr) fun _ aI => ?_
  obtain ⟨cu, bl⟩ := ct
  refine sqv aI rfl (r_addI (aI.get rfl) (aI.get rfl) cu) fun _ aJ => sqv aJ rfl (r_lss (aJ.get rfl) (aJ.get rfl)) fun _ cv => sq_end ?_
  have au := cv.kp [(3, Sl.v d), (4, Sl.v f), (5, .int .i64 c), (6, Sl.v i), (7, .int .i64 g), (30, .bool (decide (g < (c + z))))] rfl
  refine then_normal ?_
  refine wp_cond_split (au.get rfl) (fun hc => ?_) (fun hc => ?_)
  ·have cx := bl.1 (of_decide_eq_true hc)
   clear hc
   refine wp_skip ?_
   refine then_normal (wp_seq (wp_block (wp_region_lit ?_)))
   refine sqv au rfl (r_move (au.get rfl)) fun _ bm => sqv bm rfl (r_move (bm.get rfl)) fun _ bn => sqv bn rfl (r_move (bn.get rfl)) fun _ aK => ?_
   obtain ⟨cy, ay, cz, cA⟩ := cx
   refine sqv aK rfl (r_indexAddr (aK.get rfl) (aK.get rfl) tU108 ti_22 cy cz) fun _ bo => ?_
   obtain ⟨ag, cB, cC⟩ := cA
   refine sqv bo rfl (r_load1 tU22 rfl (bo.get rfl) cB) fun _ bp => ?_
   refine sq (opk_new (fun B => .slice (some ⟨B, 0, none⟩) 1 1) bp rfl (r_buildSlice (vs := #[(0, .int .u64 ag)]) (cs := [.int .u64 ag]) (map_arr2 (ml2_cons (bp.get rfl) (ml2_nil))) tU108 ti_22 rfl rfl (by kernel_rfl)) fun dC p aa cD cF cG aL _ => ?_)
   have cH : New h aa p := cF
   have cI : Chg [] h p := cD
   have cJ := cC p aa cH  cI
   have cK := cJ cG
   refine sq (opk_run aL rfl (fun _ _ hr => r_append (aL.get rfl) (aL.get rfl) hr) cK fun dD dF ah bq _ dG dH cL => ?_)
   obtain ⟨q, rfl, cM⟩ := cL
   refine sqv bq rfl (r_assign (bq.get rfl)) fun _ cN => sq_end ?_
   have br := cN.kp [(3, Sl.v d), (4, Sl.v f), (5, .int .i64 c), (6, Sl.v q), (7, .int .i64 g)] rfl
   refine block_normal ?_
   refine then_normal (wp_region_lit ?_)
   refine sqv br rfl (r_move (br.get rfl)) fun _ bs => sqv bs rfl (r_move (bs.get rfl)) fun _ bt => sqv bt rfl (r_move (bt.get rfl)) fun _ aM => ?_
   obtain ⟨cO, az, cP, cQ⟩ := cM
   refine sqv aM rfl (r_indexAddr (aM.get rfl) (aM.get rfl) tU158 ti_161 cO cP) fun _ bu => sqv bu rfl (r_fieldAddr (bu.get rfl) Tryz.underlying161 rfl ti_3 (by decide)) fun _ bv => ?_
   obtain ⟨r, cR, cS⟩ := cQ
   refine sqv bv rfl (r_load1 tU3 rfl (bv.get rfl) cR) fun _ aN => ?_
   obtain ⟨cT, bx⟩ := cS
   refine sqv aN rfl (r_addI (aN.get rfl) (aN.get rfl) cT) fun _ bz => sqv bz rfl (r_assign (bz.get rfl)) fun _ cU => sq_end ?_
   have cX := cU.kp [(3, Sl.v d), (4, Sl.v f), (5, .int .i64 c), (6, Sl.v q), (7, .int .i64 (g + r))] rfl
   have cY := cX.kp [(3, Sl.v d), (4, Sl.v f), (5, .int .i64 c), (6, Sl.v q), (7, .int .i64 (g + r))] rfl
   exact then_normal ⟨(q, g + r, ah), ⟨cY, rfl, bx.1⟩, bx.2⟩
  ·have cZ := bl.2 (of_decide_eq_false hc)
   clear hc
   refine wp_exit ?_
   refine then_exit ?_
   refine then_exit ?_
   refine block_hit ?_
   have bA := au.kp [(3, Sl.v d), (4, Sl.v f), (5, .int .i64 c), (6, Sl.v i)] rfl
   refine then_normal (wp_region_lit ?_)
   refine sqv bA rfl (r_move (bA.get rfl)) fun _ bB => sqv bB rfl (r_move (bB.get rfl)) fun _ bC => sqv bC rfl (r_move (bC.get rfl)) fun _ bD => sqv bD rfl (r_move (bD.get rfl)) fun _ aO => ?_
   obtain ⟨c0, aA, c1, c2⟩ := cZ
   refine sqv aO rfl (r_indexAddr (aO.get rfl) (aO.get rfl) tU158 ti_161 c0 c1) fun _ bF => sqv bF rfl (r_fieldAddr (bF.get rfl) Tryz.underlying161 rfl ti_39 (by decide)) fun _ bG => ?_
   obtain ⟨ak, al, am, an, ao, c3, c4⟩ := c2
   refine sqv bG rfl (r_loadN Tryz.underlying39 rfl ti_39 (bG.get rfl) c3) fun _ bH => sqv bH rfl (r_move (bH.get rfl)) fun _ aP => ?_
   refine sq (opk_call aP rfl (r_call (args := #[.agg #[.int .i64 ak, .string (Bs al), .string (Bs am), Sl.v an, Sl.v ao], Sl.v i]) Tryz.func114 (by decide) rfl (map_arr (ml_cons (aP.get rfl) (ml_cons (aP.get rfl) ml_nil))) rfl) c4 fun dI dJ aB aQ _ dK dL c5 => ?_)
   obtain ⟨ap, rfl, c6⟩ := c5
   obtain ⟨c7, aC, c8, c9⟩ := c6
   refine sqv aQ rfl (r_indexAddr (aQ.get rfl) (aQ.get rfl) tU108 ti_22 c7 c8) fun _ aR => ?_
   obtain ⟨ab, aq, aD, ar, da, bI, db, dM, dc⟩ := c9
   refine sq (opk_store aR bI (r_store (vs := [.int .u64 ap]) (((aR.get rfl)).trans (congrArg (fun a => Value.pointer (some a)) da)) (aR.get rfl) rfl ti_22 bI (Nat.ble_eq_true_of_le db) (ones_all _ rfl)) fun dN x dd df dg => ?_)
   have dh := dc x dd df
   refine sq_end ?_
   have bJ := dg.kp [(3, Sl.v d), (4, Sl.v f), (5, .int .i64 c)] rfl
   refine block_normal ?_
   refine then_normal (wp_region_lit ?_)
   refine sqv bJ rfl (r_move (bJ.get rfl)) fun _ bK => ?_
   obtain ⟨di, bL⟩ := dh
   refine sqv bK rfl (r_subI (bK.get rfl) rfl di) fun _ bM => sqv bM rfl (r_assign (bM.get rfl)) fun _ dj => sq_end ?_
   have dk := dj.kp [(3, Sl.v d), (4, Sl.v f), (5, .int .i64 (c - 1))] rfl
   have dl := dk.kp [(3, Sl.v d), (4, Sl.v f), (5, .int .i64 (c - 1))] rfl
   exact then_normal ⟨(c - 1, x), ⟨dl, rfl, bL.1⟩, bL.2⟩
 ·have dm := a8.2 (of_decide_eq_false hc)
  clear hc
  refine wp_exit ?_
  refine then_exit ?_
  refine then_exit ?_
  refine block_hit ?_
  have bN := aG.kp [(4, Sl.v f)] rfl
  refine then_normal (wp_seq (wp_region_lit ?_))
  refine sqv bN rfl (r_move (bN.get rfl)) fun _ bO => sqv bO rfl (r_assign (bO.get rfl)) fun _ dn => sq_end ?_
  have bP := dn.kp [(2, Sl.v f)] rfl
  refine then_normal ?_
  refine wp_ret ?_
  exact res_all (vs := [Sl.v f]) rfl bP ⟨res_of_tmp bP rfl, trivial⟩ dm
def hash_node.vc (l : Int) (p : Str) (q : Str) (c : Sl) (ab : Sl) (b : Sl) (R : Value → World → Prop) (w : World) : Prop :=
∀ (r : World) (g : Nat), New w g r → Chg [] w r →
CallK Tryz.prog 157 #[.string (Bs p)] r [g] (fun v aN => ∃ (am : Int), v = .int .u64 am ∧
CallK Tryz.prog 156 #[.int .u64 (IntKind.u64.wrap l), .int .u64 am] aN [g] (fun v aO => ∃ (ad : Int), v = .int .u64 ad ∧
CallK Tryz.prog 157 #[.string (Bs q)] aO [g] (fun v aP => ∃ (an : Int), v = .int .u64 an ∧
CallK Tryz.prog 156 #[.int .u64 ad, .int .u64 an] aP [g] (fun v aQ => ∃ (af : Int), v = .int .u64 af ∧
CallK Tryz.prog 156 #[.int .u64 af, .int .u64 (IntKind.u64.wrap (c.n : Int))] aQ [g] (fun v ax => ∃ (t : Int), v = .int .u64 t ∧
∃ (ag : Int → Int → World → Prop) (ao : Int → Int → World → Nat),
ag t 0 ax ∧
(∀ (i : Int) (d : Int) (k : World), ag i d k →
((d < (c.n : Int)) →
((0 : Int) ≤ d ∧ d < (c.n : Int)) ∧ ∃ ay : Addr, c.a = some ay ∧
∃ (y : Str) (z : Str), (Cells k (ay.add (d.toNat * 2)) [.string (Bs y), .string (Bs z)]) ∧
∀ (aa : World) (j : Nat), New k j aa → Chg [] k aa →
CallK Tryz.prog 157 #[.string (Bs y)] aa [j] (fun v aR => ∃ (ap : Int), v = .int .u64 ap ∧
CallK Tryz.prog 156 #[.int .u64 i, .int .u64 ap] aR [j] (fun v aS => ∃ (ah : Int), v = .int .u64 ah ∧
CallK Tryz.prog 157 #[.string (Bs z)] aS [j] (fun v aT => ∃ (aq : Int), v = .int .u64 aq ∧
CallK Tryz.prog 156 #[.int .u64 ah, .int .u64 aq] aT [j] (fun v ar => ∃ (m : Int), v = .int .u64 m ∧
(I64 (d + 1)) ∧
ag m (d + 1) ar ∧ ao m (d + 1) ar < ao i d k))))) ∧
((¬ (d < (c.n : Int))) →
CallK Tryz.prog 156 #[.int .u64 i, .int .u64 (IntKind.u64.wrap (b.n : Int))] k [] (fun v az => ∃ (u : Int), v = .int .u64 u ∧
∃ (ai : Int → Int → World → Prop) (au : Int → Int → World → Nat),
ai u 0 az ∧
(∀ (h : Int) (f : Int) (x : World), ai h f x →
((f < (b.n : Int)) →
((0 : Int) ≤ f ∧ f < (b.n : Int)) ∧ ∃ aA : Addr, b.a = some aA ∧
∃ (aj : Int), (x.cell? (aA.add (f.toNat * 1)) = some (.int .u64 aj)) ∧
CallK Tryz.prog 156 #[.int .u64 h, .int .u64 aj] x [] (fun v av => ∃ (o : Int), v = .int .u64 o ∧
(I64 (f + 1)) ∧
ai o (f + 1) av ∧ au o (f + 1) av < au h f x)) ∧
((¬ (f < (b.n : Int))) →
R (.int .u64 h) x))))))))))
theorem hash_node.ok (l : Int) (p : Str) (q : Str) (c : Sl) (ab : Sl) (b : Sl) {R : Value → World → Prop} {w : World} (aU : hash_node.vc l p q c ab b R w) : Calls Tryz.prog 114 #[.agg #[.int .i64 l, .string (Bs p), .string (Bs q), Sl.v c, Sl.v ab], Sl.v b] w (Ret R) := by
 refine enter [.agg #[.int .i64 l, .string (Bs p), .string (Bs q), Sl.v c, Sl.v ab], Sl.v b] Tryz.func114 rfl Tryz.ntmps114 rfl ?_
 intro a0 aV
 unfold hash_node.vc at aU
 refine wp_seq (wp_region_lit ?_)
 refine sq (opk_new (fun B => .pointer (some ⟨B, 0, none⟩)) aV rfl (r_box (cs := [.int .i64 l, .string (Bs p), .string (Bs q), Sl.v c, Sl.v ab]) (aV.get rfl) rfl) fun a5 r g b6 b7 aB b8 _ => ?_)
 have b9 : New w g r := b7
 have ca : Chg [] w r := b6
 refine sqv b8 rfl (r_assign rfl) fun _ cb => sq_end ?_
 have aX := cb.kp [(1, Sl.v b), (2, .pointer (some (⟨g, 0, none⟩ : Addr)))] rfl
 refine then_normal (wp_seq (wp_region_lit ?_))
 refine sqv aX rfl (r_fieldAddr (aX.get rfl) Tryz.underlying39 rfl ti_3 (by decide)) fun _ aY => sqv aY rfl (r_load1 tU3 rfl (aY.get rfl) (aB.cell 0 _ rfl)) fun _ aZ => sqv aZ rfl (r_conv (aZ.get rfl) rfl tU22) fun _ hA15 => sqv hA15 rfl (r_assign (hA15.get rfl)) fun _ cc => sq_end ?_
 have a1 := cc.kp [(1, Sl.v b), (2, .pointer (some (⟨g, 0, none⟩ : Addr))), (5, .int .u64 (IntKind.u64.wrap l))] rfl
 refine then_normal (wp_seq (wp_region_lit ?_))
 refine sqv a1 rfl (r_move (a1.get rfl)) fun _ a2 => sqv a2 rfl (r_fieldAddr (a2.get rfl) Tryz.underlying39 rfl ti_9 (by decide)) fun _ a3 => sqv a3 rfl (r_load1 tU9 rfl (a3.get rfl) (aB.cell 1 _ rfl)) fun _ a4 => ?_
 have cd := aU r g b9  ca
 refine sq (opk_call a4 rfl (r_call (args := #[.string (Bs p)]) Tryz.func157 (by decide) rfl (map_arr (ml_cons (a4.get rfl) ml_nil)) rfl) cd fun dS dT aN aC _ cf dU cg => ?_)
 obtain ⟨am, rfl, ch⟩ := cg
 have ci := aB.kept cf (.head _)
 refine sq (opk_call aC rfl (r_call (args := #[.int .u64 (IntKind.u64.wrap l), .int .u64 am]) Tryz.func156 (by decide) rfl (map_arr (ml_cons (aC.get rfl) (ml_cons (aC.get rfl) ml_nil))) rfl) ch fun dV dX aO hA32 _ cj dY ck => ?_)
 obtain ⟨ad, rfl, cl⟩ := ck
 have a6 := ci.kept cj (.head _)
 refine sqv hA32 rfl (r_assign (hA32.get rfl)) fun _ cm => sq_end ?_
 have a7 := cm.kp [(1, Sl.v b), (2, .pointer (some (⟨g, 0, none⟩ : Addr))), (5, .int .u64 ad)] rfl
 refine then_normal (wp_seq (wp_region_lit ?_))
 refine sqv a7 rfl (r_move (a7.get rfl)) fun _ a8 => sqv a8 rfl (r_fieldAddr (a8.get rfl) Tryz.underlying39 rfl ti_9 (by decide)) fun _ a9 => sqv a9 rfl (r_load1 tU9 rfl (a9.get rfl) (a6.cell 2 _ rfl)) fun _ ba => ?_
 refine sq (opk_call ba rfl (r_call (args := #[.string (Bs q)]) Tryz.func157 (by decide) rfl (map_arr (ml_cons (ba.get rfl) ml_nil)) rfl) cl fun dZ d0 aP aD _ cn d1 co => ?_)
 obtain ⟨an, rfl, cp⟩ := co
 have cq := a6.kept cn (.head _)
 refine sq (opk_call aD rfl (r_call (args := #[.int .u64 ad, .int .u64 an]) Tryz.func156 (by decide) rfl (map_arr (ml_cons (aD.get rfl) (ml_cons (aD.get rfl) ml_nil))) rfl) cp fun d2 d3 aQ bb _ cr d4 ct => ?_)
 obtain ⟨af, rfl, cu⟩ := ct
 have bd := cq.kept cr (.head _)
 refine sqv bb rfl (r_assign (bb.get rfl)) fun _ cv => sq_end ?_
 have bf := cv.kp [(1, Sl.v b), (2, .pointer (some (⟨g, 0, none⟩ : Addr))), (5, .int .u64 af)] rfl
 refine then_normal (wp_seq (wp_region_lit ?_))
 refine sqv bf rfl (r_move (bf.get rfl)) fun _ bg => sqv bg rfl (r_fieldAddr (bg.get rfl) Tryz.underlying39 rfl ti_36 (by decide)) fun _ bh => sqv bh rfl (r_load1 tU36 rfl (bh.get rfl) (bd.cell 3 _ rfl)) fun _ bi => sqv bi rfl (r_len (bi.get rfl) tU36) fun _ bj => sqv bj rfl (r_conv (bj.get rfl) rfl tU22) fun _ aF => ?_
 refine sq (opk_call aF rfl (r_call (args := #[.int .u64 af, .int .u64 (IntKind.u64.wrap (c.n : Int))]) Tryz.func156 (by decide) rfl (map_arr (ml_cons (aF.get rfl) (ml_cons (aF.get rfl) ml_nil))) rfl) cu fun d5 d6 ax bk _ cx d7 cy => ?_)
 obtain ⟨t, rfl, cz⟩ := cy
 have cA := bd.kept cx (.head _)
 refine sqv bk rfl (r_assign (bk.get rfl)) fun _ cB => sq_end ?_
 have bl := cB.kp [(1, Sl.v b), (2, .pointer (some (⟨g, 0, none⟩ : Addr))), (5, .int .u64 t)] rfl
 refine then_normal (wp_seq (wp_seq (wp_region_lit ?_)))
 refine sqv bl rfl (r_fieldAddr (bl.get rfl) Tryz.underlying39 rfl ti_36 (by decide)) fun _ bm => sqv bm rfl (r_load1 tU36 rfl (bm.get rfl) (cA.cell 3 _ rfl)) fun _ bn => sqv bn rfl (r_len (bn.get rfl) tU36) fun _ cC => sqv cC rfl (r_move rfl) fun _ cD => sq_end ?_
 have cF := cD.kp [(1, Sl.v b), (5, .int .u64 t), (30, Sl.v c), (31, .int .i64 (c.n : Int)), (32, .int .i64 0)] rfl
 refine then_normal (wp_block ?_)
 obtain ⟨ag, ao, cG, cH⟩ := cz
 refine wp_loop_st (σ := Int × Int × World) (fun s a w => Ag 63 a [(1, Sl.v b), (5, .int .u64 s.1), (30, Sl.v c), (31, .int .i64 (c.n : Int)), (32, .int .i64 s.2.1)] ∧ w = s.2.2 ∧ ag s.1 s.2.1 s.2.2) (fun s => ao s.1 s.2.1 s.2.2) (t, 0, ax) ⟨cF.kp [(1, Sl.v b), (5, .int .u64 t), (30, Sl.v c), (31, .int .i64 (c.n : Int)), (32, .int .i64 0)] rfl, rfl, cG⟩ ?_
 rintro ⟨i, d, k⟩ d8 w_ ⟨aG, hw_, cI⟩
 have hw_ : k = w_ := hw_.symm
 subst hw_
 have bo := cH i d _ cI
 refine wp_seq (wp_region_lit ?_)
 refine sqv aG rfl (r_lss (aG.get rfl) (aG.get rfl)) fun _ cJ => sq_end ?_
 have ak := cJ.kp [(1, Sl.v b), (5, .int .u64 i), (30, Sl.v c), (31, .int .i64 (c.n : Int)), (32, .int .i64 d), (33, .bool (decide (d < (c.n : Int))))] rfl
 refine then_normal (wp_seq ?_)
 refine wp_cond_split (ak.get rfl) (fun hc => ?_) (fun hc => ?_)
 ·have cK := bo.1 (of_decide_eq_true hc)
  clear hc
  refine wp_skip ?_
  refine then_normal (wp_seq (wp_block (wp_seq (wp_region_lit ?_))))
  obtain ⟨cL, ay, cM, cN⟩ := cK
  refine sqv ak rfl (r_indexAddr (ak.get rfl) (ak.get rfl) tU36 ti_91 cL cM) fun _ bp => ?_
  obtain ⟨y, z, cO, cP⟩ := cN
  refine sqv bp rfl (r_loadN Tryz.underlying91 rfl ti_91 (bp.get rfl) cO) fun _ cQ => ?_
  refine sq (opk_new (fun B => .pointer (some ⟨B, 0, none⟩)) cQ rfl (r_alloc (cs := [.string (Bs []), .string (Bs [])]) ti_91 rfl) fun d9 bq j cR cS br aH _ => ?_)
  have bs : New k j bq := cS
  have cT : Chg [] k bq := cR
  refine sq (opk_store aH br (r_store (vs := [.string (Bs y), .string (Bs z)]) (aH.get rfl) (aH.get rfl) rfl ti_91 br rfl (ones_all _ rfl)) fun fa aa bt cU cX => ?_)
  have bu : Box aa j 91 [.string (Bs y), .string (Bs z)] := cU
  have cY := cT.storeNew bs bt
  have cZ := bs.up bt.size
  refine sq_end ?_
  have bv := cX.kp [(1, Sl.v b), (5, .int .u64 i), (7, .pointer (some (⟨j, 0, none⟩ : Addr))), (30, Sl.v c), (31, .int .i64 (c.n : Int)), (32, .int .i64 d)] rfl
  refine then_normal (wp_seq (wp_region_lit ?_))
  refine sqv bv rfl (r_move (bv.get rfl)) fun _ bx => sqv bx rfl (r_fieldAddr (bx.get rfl) Tryz.underlying91 rfl ti_9 (by decide)) fun _ bz => sqv bz rfl (r_load1 tU9 rfl (bz.get rfl) (bu.cell 0 _ rfl)) fun _ bA => ?_
  have c0 := cP aa j cZ  cY
  refine sq (opk_call bA rfl (r_call (args := #[.string (Bs y)]) Tryz.func157 (by decide) rfl (map_arr (ml_cons (bA.get rfl) ml_nil)) rfl) c0 fun fb fc aR aI _ c1 fd c2 => ?_)
  obtain ⟨ap, rfl, c3⟩ := c2
  have c4 := bu.kept c1 (.head _)
  refine sq (opk_call aI rfl (r_call (args := #[.int .u64 i, .int .u64 ap]) Tryz.func156 (by decide) rfl (map_arr (ml_cons (aI.get rfl) (ml_cons (aI.get rfl) ml_nil))) rfl) c3 fun ff fg aS bB _ c5 fh c6 => ?_)
  obtain ⟨ah, rfl, c7⟩ := c6
  have bC := c4.kept c5 (.head _)
  refine sqv bB rfl (r_assign (bB.get rfl)) fun _ c8 => sq_end ?_
  have bD := c8.kp [(1, Sl.v b), (5, .int .u64 ah), (7, .pointer (some (⟨j, 0, none⟩ : Addr))), (30, Sl.v c), (31, .int .i64 (c.n : Int)), (32, .int .i64 d)] rfl
  refine then_normal (wp_region_lit ?_)
  refine sqv bD rfl (r_move (bD.get rfl)) fun _ bF => sqv bF rfl (r_fieldAddr (bF.get rfl) Tryz.underlying91 rfl ti_9 (by decide)) fun _ bG => sqv bG rfl (r_load1 tU9 rfl (bG.get rfl) (bC.cell 1 _ rfl)) fun _ bH => ?_
  refine sq (opk_call bH rfl (r_call (args := #[.string (Bs z)]) Tryz.func157 (by decide) rfl (map_arr (ml_cons (bH.get rfl) ml_nil)) rfl) c7 fun fi fj aT aJ _ c9 fk da => ?_)
  obtain ⟨aq, rfl, db⟩ := da
  have dc := bC.kept c9 (.head _)
  refine sq (opk_call aJ rfl (r_call (args := #[.int .u64 ah, .int .u64 aq]) Tryz.func156 (by decide) rfl (map_arr (ml_cons (aJ.get rfl) (ml_cons (aJ.get rfl) ml_nil))) rfl) db fun fl fm ar bI _ dd fn df => ?_)
  obtain ⟨m, rfl, dg⟩ := df
  have fo := dc.kept dd (.head _)
  refine sqv bI rfl (r_assign (bI.get rfl)) fun _ dh => sq_end ?_
  have bJ := dh.kp [(1, Sl.v b), (5, .int .u64 m), (30, Sl.v c), (31, .int .i64 (c.n : Int)), (32, .int .i64 d)] rfl
  refine block_normal ?_
  refine then_normal (wp_region_lit ?_)
  obtain ⟨di, bK⟩ := dg
  refine sqv bJ rfl (r_addI (bJ.get rfl) rfl di) fun _ bL => sqv bL rfl (r_move (bL.get rfl)) fun _ dj => sq_end ?_
  have dk := dj.kp [(1, Sl.v b), (5, .int .u64 m), (30, Sl.v c), (31, .int .i64 (c.n : Int)), (32, .int .i64 (d + 1))] rfl
  have dl := dk.kp [(1, Sl.v b), (5, .int .u64 m), (30, Sl.v c), (31, .int .i64 (c.n : Int)), (32, .int .i64 (d + 1))] rfl
  exact then_normal ⟨(m, d + 1, ar), ⟨dl, rfl, bK.1⟩, bK.2⟩
 ·have dm := bo.2 (of_decide_eq_false hc)
  clear hc
  refine wp_exit ?_
  refine then_exit ?_
  refine then_exit ?_
  refine block_hit ?_
  have bM := ak.kp [(1, Sl.v b), (5, .int .u64 i)] rfl
  refine then_normal (wp_seq (wp_region_lit ?_))
  refine sqv bM rfl (r_move (bM.get rfl)) fun _ bN => sqv bN rfl (r_move (bN.get rfl)) fun _ bO => sqv bO rfl (r_len (bO.get rfl) tU108) fun _ bP => sqv bP rfl (r_conv (bP.get rfl) rfl tU22) fun _ aK => ?_
  refine sq (opk_call aK rfl (r_call (args := #[.int .u64 i, .int .u64 (IntKind.u64.wrap (b.n : Int))]) Tryz.func156 (by decide) rfl (map_arr (ml_cons (aK.get rfl) (ml_cons (aK.get rfl) ml_nil))) rfl) dm fun fp fq az bQ _ fr fs dn => ?_)
  obtain ⟨u, rfl, dp⟩ := dn
  refine sqv bQ rfl (r_assign (bQ.get rfl)) fun _ dq => sq_end ?_
  have bR := dq.kp [(1, Sl.v b), (5, .int .u64 u)] rfl
  refine then_normal (wp_seq (wp_seq (wp_region_lit ?_)))
  refine sqv bR rfl (r_move (bR.get rfl)) fun _ bS => sqv bS rfl (r_len (bS.get rfl) tU108) fun _ dr => sqv dr rfl (r_move rfl) fun _ ds => sq_end ?_
  have dt := ds.kp [(5, .int .u64 u), (52, Sl.v b), (53, .int .i64 (b.n : Int)), (54, .int .i64 0)] rfl
  refine then_normal (wp_block ?_)
  obtain ⟨ai, au, du, dv⟩ := dp
  refine wp_loop_st (σ := Int × Int × World) (fun s a w => Ag 63 a [(5, .int .u64 s.1), (52, Sl.v b), (53, .int .i64 (b.n : Int)), (54, .int .i64 s.2.1)] ∧ w = s.2.2 ∧ ai s.1 s.2.1 s.2.2) (fun s => au s.1 s.2.1 s.2.2) (u, 0, az) ⟨dt.kp [(5, .int .u64 u), (52, Sl.v b), (53, .int .i64 (b.n : Int)), (54, .int .i64 0)] rfl, rfl, du⟩ ?_
  rintro ⟨h, f, x⟩ ft w_ ⟨aL, hw_, dx⟩
  have hw_ : x = w_ := hw_.symm
  subst hw_
  have bT := dv h f _ dx
  refine wp_seq (wp_region_lit ?_)
  refine sqv aL rfl (r_lss (aL.get rfl) (aL.get rfl)) fun _ dy => sq_end ?_
  have al := dy.kp [(5, .int .u64 h), (52, Sl.v b), (53, .int .i64 (b.n : Int)), (54, .int .i64 f), (55, .bool (decide (f < (b.n : Int))))] rfl
  refine then_normal (wp_seq ?_)
  refine wp_cond_split (al.get rfl) (fun hc => ?_) (fun hc => ?_)
  ·have dz := bT.1 (of_decide_eq_true hc)
   clear hc
   refine wp_skip ?_
   refine then_normal (wp_seq (wp_block (wp_seq (wp_region_lit ?_))))
   obtain ⟨dA, aA, dB, dC⟩ := dz
   refine sqv al rfl (r_indexAddr (al.get rfl) (al.get rfl) tU108 ti_22 dA dB) fun _ bU => ?_
   obtain ⟨aj, dD, dF⟩ := dC
   refine sqv bU rfl (r_load1 tU22 rfl (bU.get rfl) dD) fun _ bV => sqv bV rfl (r_assign (bV.get rfl)) fun _ dG => sq_end ?_
   have bX := dG.kp [(5, .int .u64 h), (9, .int .u64 aj), (52, Sl.v b), (53, .int .i64 (b.n : Int)), (54, .int .i64 f)] rfl
   refine then_normal (wp_region_lit ?_)
   refine sqv bX rfl (r_move (bX.get rfl)) fun _ bY => sqv bY rfl (r_move (bY.get rfl)) fun _ aM => ?_
   refine sq (opk_call aM rfl (r_call (args := #[.int .u64 h, .int .u64 aj]) Tryz.func156 (by decide) rfl (map_arr (ml_cons (aM.get rfl) (ml_cons (aM.get rfl) ml_nil))) rfl) dF fun fu fv av bZ _ fx fy dH => ?_)
   obtain ⟨o, rfl, dI⟩ := dH
   refine sqv bZ rfl (r_assign (bZ.get rfl)) fun _ dJ => sq_end ?_
   have b0 := dJ.kp [(5, .int .u64 o), (52, Sl.v b), (53, .int .i64 (b.n : Int)), (54, .int .i64 f)] rfl
   refine block_normal ?_
   refine then_normal (wp_region_lit ?_)
   obtain ⟨dK, b1⟩ := dI
   refine sqv b0 rfl (r_addI (b0.get rfl) rfl dK) fun _ b2 => sqv b2 rfl (r_move (b2.get rfl)) fun _ dL => sq_end ?_
   have dM := dL.kp [(5, .int .u64 o), (52, Sl.v b), (53, .int .i64 (b.n : Int)), (54, .int .i64 (f + 1))] rfl
   have dN := dM.kp [(5, .int .u64 o), (52, Sl.v b), (53, .int .i64 (b.n : Int)), (54, .int .i64 (f + 1))] rfl
   exact then_normal ⟨(o, f + 1, av), ⟨dN, rfl, b1.1⟩, b1.2⟩
  ·have dO := bT.2 (of_decide_eq_false hc)
   clear hc
   refine wp_exit ?_
   refine then_exit ?_
   refine then_exit ?_
   refine block_hit ?_
   have b3 := al.kp [(5, .int .u64 h)] rfl
   refine then_normal (wp_seq (wp_region_lit ?_))
   refine sqv b3 rfl (r_move (b3.get rfl)) fun _ b4 => sqv b4 rfl (r_assign (b4.get rfl)) fun _ dP => sq_end ?_
   have b5 := dP.kp [(4, .int .u64 h)] rfl
   refine then_normal ?_
   refine wp_ret ?_
   exact res_all (vs := [.int .u64 h]) rfl b5 ⟨res_of_tmp b5 rfl, trivial⟩ dO
def hash_Text.vc (b : Str) (R : Value → World → Prop) (w : World) : Prop :=
∃ (m : Int → Int → World → Prop) (o : Int → Int → World → Nat),
m (IntKind.u64.wrap (b.length : Int)) 0 w ∧
(∀ (d : Int) (c : Int) (g : World), m d c g →
((c < (b.length : Int)) →
∀ (k : World) (f : Nat), New g f k → Chg [] g k →
((0 : Int) ≤ c ∧ c ≤ (b.length : Int)) ∧
∀ (l : World), Chg [] k l →
∀ (_ : Box l f 66 [.int .u8 0, .int .u8 0, .int .u8 0, .int .u8 0, .int .u8 0, .int .u8 0, .int .u8 0, .int .u8 0]),
RunK Tryz.prog (Builtin.copy_ #[27, 9] 3 #[Sl.v (Sl.mk (some ⟨f, 0, none⟩) 8 8), .string (Bs (List.drop c.toNat b))]) l [] (fun v ad => ∃ (al : Int), v = .int .i64 al ∧
∃ (p : Int) (q : Int) (r : Int) (t : Int) (u : Int) (x : Int) (y : Int) (z : Int), (Cells ad (⟨f, 0, none⟩ : Addr) [.int .u8 p, .int .u8 q, .int .u8 r, .int .u8 t, .int .u8 u, .int .u8 x, .int .u8 y, .int .u8 z]) ∧
CallK Tryz.prog 55 #[.agg #[.int .u8 p, .int .u8 q, .int .u8 r, .int .u8 t, .int .u8 u, .int .u8 x, .int .u8 y, .int .u8 z]] ad [] (fun v am => ∃ (aa : Int), v = .int .u64 aa ∧
CallK Tryz.prog 156 #[.int .u64 d, .int .u64 aa] am [] (fun v ab => ∃ (j : Int), v = .int .u64 j ∧
(I64 (c + 8)) ∧
m j (c + 8) ab ∧ o j (c + 8) ab < o d c g)))) ∧
((¬ (c < (b.length : Int))) →
R (.int .u64 d) g))
theorem hash_Text.ok (b : Str) {R : Value → World → Prop} {w : World} (an : hash_Text.vc b R w) : Calls Tryz.prog 157 #[.string (Bs b)] w (Ret R) := by
 refine enter [.string (Bs b)] Tryz.func157 rfl Tryz.ntmps157 rfl ?_
 intro a0 aP
 unfold hash_Text.vc at an
 refine wp_seq (wp_region_lit ?_)
 refine sqv aP rfl (r_assign rfl) fun _ aQ => sq_end ?_
 have ao := aQ.kp [(0, .string (Bs b))] rfl
 refine then_normal (wp_seq (wp_region_lit ?_))
 refine sqv ao rfl (r_move (ao.get rfl)) fun _ ap => sqv ap rfl (r_slen (ap.get rfl) tU9) fun _ aq => sqv aq rfl (r_conv (aq.get rfl) rfl tU22) fun _ ar => sqv ar rfl (r_assign (ar.get rfl)) fun _ aR => sq_end ?_
 have aS := aR.kp [(0, .string (Bs b)), (3, .int .u64 (IntKind.u64.wrap (b.length : Int)))] rfl
 refine then_normal (wp_seq (wp_seq (wp_region_lit ?_)))
 refine sqv aS rfl (r_assign rfl) fun _ aT => sq_end ?_
 have aU := aT.kp [(0, .string (Bs b)), (3, .int .u64 (IntKind.u64.wrap (b.length : Int))), (4, .int .i64 0)] rfl
 refine then_normal (wp_block ?_)
 obtain ⟨m, o, aV, aX⟩ := an
 refine wp_loop_st (σ := Int × Int × World) (fun s a w => Ag 25 a [(0, .string (Bs b)), (3, .int .u64 s.1), (4, .int .i64 s.2.1)] ∧ w = s.2.2 ∧ m s.1 s.2.1 s.2.2) (fun s => o s.1 s.2.1 s.2.2) (IntKind.u64.wrap (b.length : Int), 0, w) ⟨aU.kp [(0, .string (Bs b)), (3, .int .u64 (IntKind.u64.wrap (b.length : Int))), (4, .int .i64 0)] rfl, rfl, aV⟩ ?_
 rintro ⟨d, c, g⟩ bK w_ ⟨au, hw_, aY⟩
 have hw_ : g = w_ := hw_.symm
 subst hw_
 have av := aX d c _ aY
 refine wp_seq (wp_seq (wp_region_lit ?_))
 refine sqv au rfl (r_move (au.get rfl)) fun _ ax => sqv ax rfl (r_move (ax.get rfl)) fun _ ay => sqv ay rfl (r_slen (ay.get rfl) tU9) fun _ af => sqv af rfl (r_lss (af.get rfl) (af.get rfl)) fun _ aZ => sq_end ?_
 have ah := aZ.kp [(0, .string (Bs b)), (3, .int .u64 d), (4, .int .i64 c), (12, .bool (decide (c < (b.length : Int))))] rfl
 refine then_normal ?_
 refine wp_cond_split (ah.get rfl) (fun hc => ?_) (fun hc => ?_)
 ·have ht105 := av.1 (of_decide_eq_true hc)
  clear hc
  refine wp_skip ?_
  refine then_normal (wp_seq (wp_block (wp_seq (wp_region_lit ?_))))
  refine sq (opk_new (fun B => .pointer (some ⟨B, 0, none⟩)) ah rfl (r_alloc (cs := [.int .u8 0, .int .u8 0, .int .u8 0, .int .u8 0, .int .u8 0, .int .u8 0, .int .u8 0, .int .u8 0]) ti_66 rfl) fun bL az f a1 a2 a3 a4 _ => ?_)
  have a5 : New g f az := a2
  have a6 : Chg [] g az := a1
  refine sq_end ?_
  have n := a4.kp [(0, .string (Bs b)), (3, .int .u64 d), (4, .int .i64 c), (5, .pointer (some (⟨f, 0, none⟩ : Addr)))] rfl
  refine then_normal (wp_seq ?_)
  refine draw' (by kernel_rfl) fun k ai => ?_
  have a7 := a3.ext ai
  have a8 := a6.more ai
  have a9 := a5.up ai.size
  have ba := ht105 k f a9  a8
  obtain ⟨bb, bd⟩ := ba
  refine par (D := [[], [], [], [1, 2], [0, 1, 2, 3]]) (S := [0, 1, 2, 3]) (F := []) (V := VL [(0, fun v _ => v = Sl.v (Sl.mk (some ⟨f, 0, none⟩) 8 8)), (1, fun v _ => v = .string (Bs b)), (2, fun v _ => v = .int .i64 c), (3, fun v _ => v = .string (Bs (List.drop c.toNat b)))]) n (by kernel_rfl) ⟨fun _ _ _ _ h => h, fun _ _ _ _ h => h, fun _ _ _ _ h => h, fun _ _ _ _ h => h, trivial⟩ ⟨?_, ?_, ?_, ?_, trivial⟩ ?_
  ·intro a w hT
   have hAp := hT.ag n [(5, .pointer (some (⟨f, 0, none⟩ : Addr)))] ⟨rfl, trivial⟩ (by kernel_rfl)
   exact ovr hAp rfl (r_slice0A (hAp.get rfl) Tryz.underlying66 ti_5) fun _ => Eq.refl _
  ·intro a w hT
   have hAp := hT.ag n [(0, .string (Bs b))] ⟨rfl, trivial⟩ (by kernel_rfl)
   exact ovr hAp rfl (r_move (hAp.get rfl)) fun _ => Eq.refl _
  ·intro a w hT
   have hAp := hT.ag n [(4, .int .i64 c)] ⟨rfl, trivial⟩ (by kernel_rfl)
   exact ovr hAp rfl (r_move (hAp.get rfl)) fun _ => Eq.refl _
  ·intro a w hT
   have hAp := hT.ag n [] trivial (by kernel_rfl)
   have bf : a.tmps.getD 16 undef = .string (Bs b) := hT.vals 1 rfl 16 rfl
   have hAp := hAp.add bf
   have bg : a.tmps.getD 17 undef = .int .i64 c := hT.vals 2 rfl 17 rfl
   have hAp := hAp.add bg
   exact ovr hAp rfl (r_ssliceL (hAp.get rfl) (hAp.get rfl) tU9 bb) fun _ => Eq.refl _
  ·intro aA l aB bh aC
   have bi := bh [(0, .string (Bs b)), (3, .int .u64 d), (4, .int .i64 c), (5, .pointer (some (⟨f, 0, none⟩ : Addr)))] ⟨rfl, rfl, rfl, rfl, trivial⟩ (by kernel_rfl)
   have bj : aA.tmps.getD 15 undef = Sl.v (Sl.mk (some ⟨f, 0, none⟩) 8 8) := aC 0 rfl 15 rfl
   have bk := bi.add bj
   have bl : aA.tmps.getD 18 undef = .string (Bs (List.drop c.toNat b)) := aC 3 rfl 18 rfl
   have aj := bk.add bl
   have bm := a7.ext aB
   have bn : Chg [] k l := aB
   have bo := bd l    bn
   have bp := bo bm
   refine one (D := [[], [], [], [1, 2], [0, 1, 2, 3]]) (i := 4) rfl (by kernel_rfl) (opk_run aj rfl (fun _ _ hr => r_copy (aj.get rfl) (aj.get rfl) hr) bp fun bM bN ad bq _ bO bP br => ?_)
   obtain ⟨al, rfl, bs⟩ := br
   refine PR_end (by kernel_rfl) ?_
   have aD := bq.kp [(0, .string (Bs b)), (3, .int .u64 d), (4, .int .i64 c), (5, .pointer (some (⟨f, 0, none⟩ : Addr)))] rfl
   refine then_normal (wp_region_lit ?_)
   refine sqv aD rfl (r_move (aD.get rfl)) fun _ aF => ?_
   obtain ⟨p, q, r, t, u, x, y, z, bt, bu⟩ := bs
   refine sqv aF rfl (r_loadN Tryz.underlying66 rfl ti_66 (aF.get rfl) bt) fun _ aG => ?_
   refine sq (opk_call aG rfl (r_call (args := #[.agg #[.int .u8 p, .int .u8 q, .int .u8 r, .int .u8 t, .int .u8 u, .int .u8 x, .int .u8 y, .int .u8 z]]) Tryz.func55 (by decide) rfl (map_arr (ml_cons (aG.get rfl) ml_nil)) rfl) bu fun bQ bR am ak _ bS bT bv => ?_)
   obtain ⟨aa, rfl, bx⟩ := bv
   refine sq (opk_call ak rfl (r_call (args := #[.int .u64 d, .int .u64 aa]) Tryz.func156 (by decide) rfl (map_arr (ml_cons (ak.get rfl) (ml_cons (ak.get rfl) ml_nil))) rfl) bx fun bU bV ab aH _ bX bY bz => ?_)
   obtain ⟨j, rfl, bA⟩ := bz
   refine sqv aH rfl (r_assign (aH.get rfl)) fun _ bB => sq_end ?_
   have aI := bB.kp [(0, .string (Bs b)), (3, .int .u64 j), (4, .int .i64 c)] rfl
   refine block_normal ?_
   refine then_normal (wp_region_lit ?_)
   refine sqv aI rfl (r_move (aI.get rfl)) fun _ aJ => ?_
   obtain ⟨bC, aK⟩ := bA
   refine sqv aJ rfl (r_addI (aJ.get rfl) rfl bC) fun _ aL => sqv aL rfl (r_assign (aL.get rfl)) fun _ bD => sq_end ?_
   have bF := bD.kp [(0, .string (Bs b)), (3, .int .u64 j), (4, .int .i64 (c + 8))] rfl
   have bG := bF.kp [(0, .string (Bs b)), (3, .int .u64 j), (4, .int .i64 (c + 8))] rfl
   exact then_normal ⟨(j, c + 8, ab), ⟨bG, rfl, aK.1⟩, aK.2⟩
 ·have bH := av.2 (of_decide_eq_false hc)
  clear hc
  refine wp_exit ?_
  refine then_exit ?_
  refine then_exit ?_
  refine block_hit ?_
  have aM := ah.kp [(3, .int .u64 d)] rfl
  refine then_normal (wp_seq (wp_region_lit ?_))
  refine sqv aM rfl (r_move (aM.get rfl)) fun _ aN => sqv aN rfl (r_assign (aN.get rfl)) fun _ bI => sq_end ?_
  have aO := bI.kp [(2, .int .u64 d)] rfl
  refine then_normal ?_
  refine wp_ret ?_
  exact res_all (vs := [.int .u64 d]) rfl aO ⟨res_of_tmp aO rfl, trivial⟩ bH
end Go.Proofs.YteacalmdpoblpaaGreat
