/-
  PRINTED BY PROGRAM: for each function its condition (vc), and that this suffices (ok).
-/
import Derived.Test.YtenokfdkckhhiaaGreatDoorQBuildNestsGT
namespace Go.Proofs.YtenokfdkckhhiaaGreatDoor
open Go.RowKit
set_option linter.unusedVariables false
abbrev nmEight : List Str := [([100,105,118] : Str),([98] : Str),([115,112,97,110] : Str),([117,108] : Str),([115,101,99,116,105,111,110] : Str),([105] : Str),([101,109] : Str),([120,45,121] : Str)]
set_option maxHeartbeats 1000000
set_option maxRecDepth 10000
def law14_BuildNests.vc (i : Sl) (R : Value → World → Prop) (w : World) : Prop :=
∀ (ai : World) (m : Nat),New w m ai → Chg [] w ai →
∃ (am : Str → Str → Sl → Int → World → Prop) (aA : Str → Str → Sl → Int → World → Nat),
am ([] : Str) ([] : Str) Sl.nil 0 ai ∧
(∀ (l : Str) (p : Str) (c : Sl) (f : Int) (aj : World),am l p c f aj →
(((f < (i.n : Int)) ∧ (f < 20)) →
((0 : Int) ≤ f ∧ f < (i.n : Int)) ∧ ∃ aI : Addr,i.a = some aI ∧
∃ (aB : Int),(aj.cell? (aI.add (f.toNat * 1)) = some (.int .i64 aB)) ∧
CallK Tryz.prog 15 #[.int .i64 aB,.int .i64 8] aj [m] (fun v an => ∃ (d : Int),v = .int .i64 d ∧
((0 : Int) ≤ d ∧ d < 8) ∧
(List.length l + List.length ([60] : Str) ≤ 9223372036854775807) ∧
(List.length (l ++ ([60] : Str)) + List.length (nmEight.getD d.toNat []) ≤ 9223372036854775807) ∧
(List.length ((l ++ ([60] : Str)) ++ (nmEight.getD d.toNat [])) + List.length ([62] : Str) ≤ 9223372036854775807) ∧
(List.length ([60,47] : Str) + List.length (nmEight.getD d.toNat []) ≤ 9223372036854775807) ∧
(List.length (([60,47] : Str) ++ (nmEight.getD d.toNat [])) + List.length ([62] : Str) ≤ 9223372036854775807) ∧
(List.length ((([60,47] : Str) ++ (nmEight.getD d.toNat [])) ++ ([62] : Str)) + List.length p ≤ 9223372036854775807) ∧
∀ (aa : World) (ak : Nat),New an ak aa → Chg [] an aa →
∀ (_ : Box aa ak 9 [.string (Bs (nmEight.getD d.toNat []))]),
RunK Tryz.prog (Builtin.append_ #[44,44] 44 #[Sl.v c,Sl.v (Sl.mk (some ⟨ak,0,none⟩) 1 1)]) aa [m] (fun v aC => ∃ (ab : Sl),v = Sl.v ab ∧
(I64 (f + 1)) ∧
am (((l ++ ([60] : Str)) ++ (nmEight.getD d.toNat [])) ++ ([62] : Str)) (((([60,47] : Str) ++ (nmEight.getD d.toNat [])) ++ ([62] : Str)) ++ p) ab (f + 1) aC ∧ aA (((l ++ ([60] : Str)) ++ (nmEight.getD d.toNat [])) ++ ([62] : Str)) (((([60,47] : Str) ++ (nmEight.getD d.toNat [])) ++ ([62] : Str)) ++ p) ab (f + 1) aC < aA l p c f aj))) ∧
(((¬ (f < (i.n : Int))) ∨ (¬ (f < 20))) →
(List.length ([60,98,111,100,121,62] : Str) + List.length l ≤ 9223372036854775807) ∧
(List.length (([60,98,111,100,121,62] : Str) ++ l) + List.length ([120] : Str) ≤ 9223372036854775807) ∧
(List.length ((([60,98,111,100,121,62] : Str) ++ l) ++ ([120] : Str)) + List.length p ≤ 9223372036854775807) ∧
(List.length (((([60,98,111,100,121,62] : Str) ++ l) ++ ([120] : Str)) ++ p) + List.length ([121] : Str) ≤ 9223372036854775807) ∧
CallK Tryz.prog 18 #[.string (Bs ((((([60,98,111,100,121,62] : Str) ++ l) ++ ([120] : Str)) ++ p) ++ ([121] : Str)))] aj [] (fun v ao => ∃ (o : Sl) (j : Bool),v = .tuple #[Sl.v o,.bool j] ∧
∃ aJ : Addr,(((j = true) ∧ (0 < (c.n : Int)) ∧ (¬ ((o.n : Int) ≠ 2))) → ((0 : Int) ≤ 1 ∧ 1 < (o.n : Int)) ∧  o.a = some aJ) ∧
∃ (ap : Str),(((j = true) ∧ (0 < (c.n : Int)) ∧ (¬ ((o.n : Int) ≠ 2))) → ao.cell? ((aJ.add (1 * 5)).add 2) = some (.string (Bs ap))) ∧
(((j = false) ∨ ((0 < (c.n : Int)) ∧ (((o.n : Int) ≠ 2) ∨ (ap ≠ ([121] : Str))))) →
R (.bool false) ao) ∧
(((j = true) ∧ ((¬ (0 < (c.n : Int))) ∨ ((¬ ((o.n : Int) ≠ 2)) ∧ (¬ (ap ≠ ([121] : Str)))))) →
∃ (aq : Sl → Int → World → Prop) (aD : Sl → Int → World → Nat),
aq o 0 ao ∧
(∀ (b : Sl) (k : Int) (r : World),aq b k r →
((k < (c.n : Int)) →
∀ (z : World),Chg [] r z →
∃ al : Addr,(((¬ ((b.n : Int) < 1))) → ((0 : Int) ≤ 0 ∧ 0 < (b.n : Int)) ∧ b.a = some al) ∧
∃ (x : Str),(((¬ ((b.n : Int) < 1))) → z.cell? ((al.add (0 * 5)).add 1) = some (.string (Bs x))) ∧
∃ ar : Addr,(((¬ ((b.n : Int) < 1))) → ((0 : Int) ≤ k ∧ k < (c.n : Int)) ∧ c.a = some ar) ∧
∃ (y : Str),(((¬ ((b.n : Int) < 1))) → z.cell? (ar.add (k.toNat * 1)) = some (.string (Bs y))) ∧
((((b.n : Int) < 1) ∨ (x ≠ y)) →
∀ (u : World),Chg [] z u →
R (.bool false) u) ∧
(((¬ ((b.n : Int) < 1)) ∧ (¬ (x ≠ y))) →
((0 : Int) ≤ 0 ∧ 0 < (b.n : Int)) ∧ ∃ aK : Addr,b.a = some aK ∧
∀ (u : World),Chg [] z u →
∃ (ad : Sl),(u.cell? ((aK.add (0 * 5)).add 4) = some (Sl.v ad)) ∧
(I64 (k + 1)) ∧
aq ad (k + 1) u ∧ aD ad (k + 1) u < aD b k r)) ∧
((¬ (k < (c.n : Int))) →
(((c.n : Int) = 0) →
∃ aL : Addr,((((b.n : Int) = 1)) → ((0 : Int) ≤ 0 ∧ 0 < (b.n : Int)) ∧  b.a = some aL) ∧
∃ (af : Str),((((b.n : Int) = 1)) → r.cell? ((aL.add (0 * 5)).add 2) = some (.string (Bs af))) ∧
∃ (au : Bool),(((((b.n : Int) = 1) ∧ (af = ([120,121] : Str)))) → Calls Tryz.prog 10 #[] r (Ret fun v w' => Ext r w' ∧ v = .bool au)) ∧
(∀ av : World,Ext r av →
R (.bool (((decide ((b.n : Int) = 1)) && (decide (af = ([120,121] : Str)))) && au)) av)) ∧
((¬ ((c.n : Int) = 0)) →
∃ aM : Addr,((((b.n : Int) = 1)) → ((0 : Int) ≤ 0 ∧ 0 < (b.n : Int)) ∧  b.a = some aM) ∧
∃ (ah : Str),((((b.n : Int) = 1)) → r.cell? ((aM.add (0 * 5)).add 2) = some (.string (Bs ah))) ∧
∃ (ax : Bool),(((((b.n : Int) = 1) ∧ (ah = ([120] : Str)))) → Calls Tryz.prog 10 #[] r (Ret fun v w' => Ext r w' ∧ v = .bool ax)) ∧
(∀ ay : World,Ext r ay →
R (.bool (((decide ((b.n : Int) = 1)) && (decide (ah = ([120] : Str)))) && ax)) ay))))))))
theorem law14_BuildNests.ok (i : Sl) {R : Value → World → Prop} {w : World} (a8 : law14_BuildNests.vc i R w) : Calls Tryz.prog 6 #[Sl.v i] w (Ret R) := by
 refine enter [Sl.v i] Tryz.func6 rfl Tryz.ntmps6 rfl ?_
 intro a0 dm
 unfold law14_BuildNests.vc at a8
 refine wp_seq (wp_region_lit ?_)
 refine sqv dm rfl (r_assign rfl) fun _ dn => sq_end ?_
 have dp := dn.kp [(0,Sl.v i)] rfl
 refine then_normal (wp_seq (wp_region_lit ?_))
 refine sqv dp rfl (r_buildA (vs := #[(0,.string (Bs ([100,105,118] : Str))),(1,.string (Bs ([98] : Str))),(2,.string (Bs ([115,112,97,110] : Str))),(3,.string (Bs ([117,108] : Str))),(4,.string (Bs ([115,101,99,116,105,111,110] : Str))),(5,.string (Bs ([105] : Str))),(6,.string (Bs ([101,109] : Str))),(7,.string (Bs ([120,45,121] : Str)))]) (cells := #[.string (Bs ([100,105,118] : Str)),.string (Bs ([98] : Str)),.string (Bs ([115,112,97,110] : Str)),.string (Bs ([117,108] : Str)),.string (Bs ([115,101,99,116,105,111,110] : Str)),.string (Bs ([105] : Str)),.string (Bs ([101,109] : Str)),.string (Bs ([120,45,121] : Str))]) (map_arr2 (ml2_cons rfl (ml2_cons rfl (ml2_cons rfl (ml2_cons rfl (ml2_cons rfl (ml2_cons rfl (ml2_cons rfl (ml2_cons rfl (ml2_nil)))))))))) ti_43 Tryz.underlying43 ti_9 (by kernel_rfl)) fun _ dq => ?_
 refine sq (opk_new (fun B => .pointer (some ⟨B,0,none⟩)) dq rfl (r_alloc (cs := [.string (Bs []),.string (Bs []),.string (Bs []),.string (Bs []),.string (Bs []),.string (Bs []),.string (Bs []),.string (Bs [])]) ti_43 rfl) fun a7 w6 m dr ds ba aN _ => ?_)
 have bb : New w m w6 := ds
 have dt : Chg [] w w6 := dr
 refine sq (opk_store aN ba (r_store (vs := [.string (Bs ([100,105,118] : Str)),.string (Bs ([98] : Str)),.string (Bs ([115,112,97,110] : Str)),.string (Bs ([117,108] : Str)),.string (Bs ([115,101,99,116,105,111,110] : Str)),.string (Bs ([105] : Str)),.string (Bs ([101,109] : Str)),.string (Bs ([120,45,121] : Str))]) (aN.get rfl) (aN.get rfl) rfl ti_43 ba rfl (ones_all _ rfl)) fun hz ai bd du dv => ?_)
 have dx : Box ai m 43 [.string (Bs ([100,105,118] : Str)),.string (Bs ([98] : Str)),.string (Bs ([115,112,97,110] : Str)),.string (Bs ([117,108] : Str)),.string (Bs ([115,101,99,116,105,111,110] : Str)),.string (Bs ([105] : Str)),.string (Bs ([101,109] : Str)),.string (Bs ([120,45,121] : Str))] := du
 have dy := dt.storeNew bb bd
 have dz := bb.up bd.size
 refine sq_end ?_
 have dA := dv.kp [(0,Sl.v i),(3,pB m 0)] rfl
 refine then_normal (wp_seq (wp_region_lit ?_))
 refine sqv dA rfl (r_assign rfl) fun _ dB => sqv dB rfl (r_assign rfl) fun _ dC => sq_end ?_
 have dD := dC.kp [(0,Sl.v i),(3,pB m 0),(4,.string (Bs [])),(5,.string (Bs []))] rfl
 refine then_normal (wp_seq (wp_region_lit ?_))
 refine sqv dD rfl (r_assign rfl) fun _ dG => sq_end ?_
 have dH := dG.kp [(0,Sl.v i),(3,pB m 0),(4,.string (Bs [])),(5,.string (Bs [])),(6,Sl.v Sl.nil)] rfl
 refine then_normal (wp_seq (wp_seq (wp_region_lit ?_)))
 refine sqv dH rfl (r_assign rfl) fun _ dI => sq_end ?_
 have dJ := dI.kp [(0,Sl.v i),(3,pB m 0),(4,.string (Bs [])),(5,.string (Bs [])),(6,Sl.v Sl.nil),(7,.int .i64 0)] rfl
 refine then_normal (wp_block ?_)
 have dK := a8 ai m dz  dy
 obtain ⟨am,aA,dL,dM⟩ := dK
 refine wp_loop_st (σ := Str × Str × Sl × Int × World) (fun s a w => Ag 126 a [(0,Sl.v i),(3,pB m 0),(4,.string (Bs s.1)),(5,.string (Bs s.2.1)),(6,Sl.v s.2.2.1),(7,.int .i64 s.2.2.2.1)] ∧ Box w m 43 [.string (Bs ([100,105,118] : Str)),.string (Bs ([98] : Str)),.string (Bs ([115,112,97,110] : Str)),.string (Bs ([117,108] : Str)),.string (Bs ([115,101,99,116,105,111,110] : Str)),.string (Bs ([105] : Str)),.string (Bs ([101,109] : Str)),.string (Bs ([120,45,121] : Str))] ∧ w = s.2.2.2.2 ∧ am s.1 s.2.1 s.2.2.1 s.2.2.2.1 s.2.2.2.2) (fun s => aA s.1 s.2.1 s.2.2.1 s.2.2.2.1 s.2.2.2.2) (([] : Str),([] : Str),Sl.nil,0,ai) ⟨dJ.kp [(0,Sl.v i),(3,pB m 0),(4,.string (Bs [])),(5,.string (Bs [])),(6,Sl.v Sl.nil),(7,.int .i64 0)] rfl,dx,rfl,dL⟩ ?_
 rintro ⟨l,p,c,f,aj⟩ hA w_ ⟨bf,dN,hw_,dO⟩
 have hw_ : aj = w_ := hw_.symm
 subst hw_
 have bg := dM l p c f _ dO
 refine wp_seq (wp_seq (wp_region_lit ?_))
 refine sqv bf rfl (r_move (bf.get rfl)) fun _ bi => sqv bi rfl (r_move (bi.get rfl)) fun _ bj => sqv bj rfl (r_len (bj.get rfl) tU42) fun _ aO => sqv aO rfl (r_lss (aO.get rfl) (aO.get rfl)) fun _ bk => sqv bk rfl (r_move (bk.get rfl)) fun _ bl => ?_
 refine sq (opk_gval bl rfl rfl (g := true) (e := (decide (f < (i.n : Int)))) rfl (fun hg => r_move (bl.get rfl)) fun hB bo _ => ?_)
 refine sq (opk_gval bo rfl rfl (g := true) (e := (decide (f < (i.n : Int)))) rfl (fun hg => r_lss (cv_get (bo.get rfl) hg) rfl) fun hC aP _ => ?_)
 refine sqv aP rfl (r_pick_and (g := (true && ((decide (f < (i.n : Int))) == true))) (aP.get rfl) (aP.get rfl) (fun he => g_mkt rfl he)) fun _ dP => sq_end ?_
 have aG := dP.kp [(0,Sl.v i),(3,pB m 0),(4,.string (Bs l)),(5,.string (Bs p)),(6,Sl.v c),(7,.int .i64 f),(20,.bool ((decide (f < (i.n : Int))) && (decide (f < 20))))] rfl
 refine then_normal ?_
 refine wp_cond_split (aG.get rfl) (fun hc => ?_) (fun hc => ?_)
 ·have dQ := bg.1 ⟨(of_decide_eq_true (b_and_t hc).1),(of_decide_eq_true (b_and_t hc).2)⟩
  clear hc
  refine wp_skip ?_
  refine then_normal (wp_seq (wp_block (wp_seq (wp_region_lit ?_))))
  refine sqv aG rfl (r_move (aG.get rfl)) fun _ bp => sqv bp rfl (r_move (bp.get rfl)) fun _ aQ => ?_
  obtain ⟨dR,aI,dS,dU⟩ := dQ
  refine sqv aQ rfl (r_indexAddr (aQ.get rfl) (aQ.get rfl) tU42 ti_3 dR dS) fun _ bq => ?_
  obtain ⟨aB,dV,dX⟩ := dU
  refine sqv bq rfl (r_load1 tU3 rfl (bq.get rfl) dV) fun _ bs => ?_
  refine sq (opk_call bs rfl (r_call (args := #[.int .i64 aB,.int .i64 8]) Tryz.func15 (by decide) rfl (map_arr (ml_cons (bs.get rfl) (ml_cons rfl ml_nil))) rfl) dX fun hD hF an aR _ dY hG dZ => ?_)
  obtain ⟨d,rfl,d0⟩ := dZ
  have aS := dN.kept dY (.head _)
  obtain ⟨bt,d1⟩ := d0
  refine sqv aR rfl (r_indexAddrA (aR.get rfl) (aR.get rfl) Tryz.underlying43 ti_9 bt) fun _ bu => sqv bu rfl (r_load1 tU9 rfl (bu.get rfl) (Box.cellA nmEight (fun s => Value.string (Bs s)) [] aS rfl rfl bt)) fun _ bv => sqv bv rfl (r_assign (bv.get rfl)) fun _ d2 => sq_end ?_
  have bx := d2.kp [(0,Sl.v i),(3,pB m 0),(4,.string (Bs l)),(5,.string (Bs p)),(6,Sl.v c),(7,.int .i64 f),(8,.string (Bs (nmEight.getD d.toNat [])))] rfl
  refine then_normal (wp_seq (wp_region_lit ?_))
  refine sqv bx rfl (r_move (bx.get rfl)) fun _ bz => ?_
  obtain ⟨d3,d4⟩ := d1
  refine sqv bz rfl (r_sadd (bz.get rfl) rfl d3) fun _ bA => sqv bA rfl (r_move (bA.get rfl)) fun _ aU => ?_
  obtain ⟨d5,d6⟩ := d4
  refine sqv aU rfl (r_sadd (aU.get rfl) (aU.get rfl) d5) fun _ bB => ?_
  obtain ⟨d7,d8⟩ := d6
  refine sqv bB rfl (r_sadd (bB.get rfl) rfl d7) fun _ bC => sqv bC rfl (r_assign (bC.get rfl)) fun _ d9 => sq_end ?_
  have bD := d9.kp [(0,Sl.v i),(3,pB m 0),(4,.string (Bs (((l ++ ([60] : Str)) ++ (nmEight.getD d.toNat [])) ++ ([62] : Str)))),(5,.string (Bs p)),(6,Sl.v c),(7,.int .i64 f),(8,.string (Bs (nmEight.getD d.toNat [])))] rfl
  refine then_normal (wp_seq (wp_region_lit ?_))
  refine sqv bD rfl (r_move (bD.get rfl)) fun _ bF => ?_
  obtain ⟨fa,fb⟩ := d8
  refine sqv bF rfl (r_sadd rfl (bF.get rfl) fa) fun _ bG => ?_
  obtain ⟨fc,fd⟩ := fb
  refine sqv bG rfl (r_sadd (bG.get rfl) rfl fc) fun _ bH => sqv bH rfl (r_move (bH.get rfl)) fun _ aV => ?_
  obtain ⟨ff,fg⟩ := fd
  refine sqv aV rfl (r_sadd (aV.get rfl) (aV.get rfl) ff) fun _ bI => sqv bI rfl (r_assign (bI.get rfl)) fun _ fh => sq_end ?_
  have bJ := fh.kp [(0,Sl.v i),(3,pB m 0),(4,.string (Bs (((l ++ ([60] : Str)) ++ (nmEight.getD d.toNat [])) ++ ([62] : Str)))),(5,.string (Bs (((([60,47] : Str) ++ (nmEight.getD d.toNat [])) ++ ([62] : Str)) ++ p))),(6,Sl.v c),(7,.int .i64 f),(8,.string (Bs (nmEight.getD d.toNat [])))] rfl
  refine then_normal (wp_region_lit ?_)
  refine sqv bJ rfl (r_move (bJ.get rfl)) fun _ bK => sqv bK rfl (r_move (bK.get rfl)) fun _ bL => ?_
  refine sq (opk_new (fun B => .slice (some ⟨B,0,none⟩) 1 1) bL rfl (r_buildSlice (vs := #[(0,.string (Bs (nmEight.getD d.toNat [])))]) (cs := [.string (Bs (nmEight.getD d.toNat []))]) (map_arr2 (ml2_cons (bL.get rfl) (ml2_nil))) tU44 ti_9 rfl rfl (by kernel_rfl)) fun hH aa ak bM bN fi aX _ => ?_)
  have hI : m ≠ ak := Nat.ne_of_lt (Nat.lt_of_lt_of_le aS.lt bN.ge)
  have fj : New an ak aa := bN
  have fk := aS.ext bM
  have fl : Chg [] an aa := bM
  have fm := fg aa ak fj  fl
  have fn := fm fi
  refine sq (opk_run aX rfl (fun _ _ hr => r_append (aX.get rfl) (aX.get rfl) hr) fn fun hJ hK aC bO _ fo hL fp => ?_)
  obtain ⟨ab,rfl,fq⟩ := fp
  have fr := fk.kept fo (.head _)
  refine sqv bO rfl (r_assign (bO.get rfl)) fun _ fs => sq_end ?_
  have bP := fs.kp [(0,Sl.v i),(3,pB m 0),(4,.string (Bs (((l ++ ([60] : Str)) ++ (nmEight.getD d.toNat [])) ++ ([62] : Str)))),(5,.string (Bs (((([60,47] : Str) ++ (nmEight.getD d.toNat [])) ++ ([62] : Str)) ++ p))),(6,Sl.v ab),(7,.int .i64 f)] rfl
  refine block_normal ?_
  refine then_normal (wp_region_lit ?_)
  refine sqv bP rfl (r_move (bP.get rfl)) fun _ bQ => ?_
  obtain ⟨ft,bR⟩ := fq
  refine sqv bQ rfl (r_addI (bQ.get rfl) rfl ft) fun _ bS => sqv bS rfl (r_assign (bS.get rfl)) fun _ fu => sq_end ?_
  have fv := fu.kp [(0,Sl.v i),(3,pB m 0),(4,.string (Bs (((l ++ ([60] : Str)) ++ (nmEight.getD d.toNat [])) ++ ([62] : Str)))),(5,.string (Bs (((([60,47] : Str) ++ (nmEight.getD d.toNat [])) ++ ([62] : Str)) ++ p))),(6,Sl.v ab),(7,.int .i64 (f + 1))] rfl
  have fx := fv.kp [(0,Sl.v i),(3,pB m 0),(4,.string (Bs (((l ++ ([60] : Str)) ++ (nmEight.getD d.toNat [])) ++ ([62] : Str)))),(5,.string (Bs (((([60,47] : Str) ++ (nmEight.getD d.toNat [])) ++ ([62] : Str)) ++ p))),(6,Sl.v ab),(7,.int .i64 (f + 1))] rfl
  exact then_normal ⟨(((l ++ ([60] : Str)) ++ (nmEight.getD d.toNat [])) ++ ([62] : Str),((([60,47] : Str) ++ (nmEight.getD d.toNat [])) ++ ([62] : Str)) ++ p,ab,f + 1,aC),⟨fx,fr,rfl,bR.1⟩,bR.2⟩
 ·have fy := bg.2 ((b_and_f hc).imp (fun h => (of_decide_eq_false h)) (fun h => (of_decide_eq_false h)))
  clear hc
  refine wp_exit ?_
  refine then_exit ?_
  refine then_exit ?_
  refine block_hit ?_
  have bT := aG.kp [(4,.string (Bs l)),(5,.string (Bs p)),(6,Sl.v c)] rfl
  refine then_normal (wp_seq (wp_region_lit ?_))
  refine sqv bT rfl (r_move (bT.get rfl)) fun _ bU => ?_
  obtain ⟨fz,fA⟩ := fy
  refine sqv bU rfl (r_sadd rfl (bU.get rfl) fz) fun _ bX => ?_
  obtain ⟨fB,fC⟩ := fA
  refine sqv bX rfl (r_sadd (bX.get rfl) rfl fB) fun _ bY => sqv bY rfl (r_move (bY.get rfl)) fun _ aY => ?_
  obtain ⟨fD,fF⟩ := fC
  refine sqv aY rfl (r_sadd (aY.get rfl) (aY.get rfl) fD) fun _ bZ => ?_
  obtain ⟨fG,fH⟩ := fF
  refine sqv bZ rfl (r_sadd (bZ.get rfl) rfl fG) fun _ b0 => ?_
  refine sq (opk_call b0 rfl (r_call (args := #[.string (Bs ((((([60,98,111,100,121,62] : Str) ++ l) ++ ([120] : Str)) ++ p) ++ ([121] : Str)))]) Tryz.func18 (by decide) rfl (map_arr (ml_cons (b0.get rfl) ml_nil)) rfl) fH fun hM hN ao b1 _ hO hP fJ => ?_)
  obtain ⟨o,j,rfl,fK⟩ := fJ
  refine sqv b1 rfl (r_move (b1.get rfl)) fun _ b2 => sqv b2 rfl (r_extract (b2.get rfl) rfl) fun _ b3 => sqv b3 rfl (r_extract (b3.get rfl) rfl) fun _ b4 => sqv b4 rfl (r_assign (b4.get rfl)) fun _ b5 => sqv b5 rfl (r_assign (b5.get rfl)) fun _ fL => sq_end ?_
  have b6 := fL.kp [(6,Sl.v c),(9,Sl.v o),(10,.bool j)] rfl
  refine then_normal (wp_seq (wp_seq (wp_region_lit ?_)))
  refine sqv b6 rfl (r_move (b6.get rfl)) fun _ b7 => sqv b7 rfl (r_not (b7.get rfl)) fun _ b8 => sqv b8 rfl (r_move (b8.get rfl)) fun _ b9 => ?_
  refine sq (opk_gval b9 rfl rfl (g := true) (e := (!j)) rfl (fun hg => r_move (b9.get rfl)) fun hQ ca _ => ?_)
  refine sq (opk_gval ca rfl rfl (g := true) (e := (!j)) rfl (fun hg => r_len (cv_get (ca.get rfl) hg) tU44) fun hR cb _ => ?_)
  refine sq (opk_gval cb rfl rfl (g := true) (e := (!j)) rfl (fun hg => r_gtr (cv_get (cb.get rfl) hg) rfl) fun hU cc _ => ?_)
  refine sq (opk_gval cc rfl rfl (g := true) (e := (!j)) rfl (fun hg => r_move (cv_get (cc.get rfl) hg)) fun hV cd _ => ?_)
  refine sq (opk_gval cd rfl rfl (g := (true && ((!j) == false))) (e := (decide (0 < (c.n : Int)))) rfl (fun hg => r_move (cd.get rfl)) fun hX cf _ => ?_)
  refine sq (opk_gval cf rfl rfl (g := (true && ((!j) == false))) (e := (decide (0 < (c.n : Int)))) rfl (fun hg => r_len (cv_get (cf.get rfl) hg) tU26) fun hY cg _ => ?_)
  refine sq (opk_gval cg rfl rfl (g := (true && ((!j) == false))) (e := (decide (0 < (c.n : Int)))) rfl (fun hg => r_neq (cv_get (cg.get rfl) hg) rfl) fun hZ ch _ => ?_)
  refine sq (opk_gval ch rfl rfl (g := (true && ((!j) == false))) (e := (decide (0 < (c.n : Int)))) rfl (fun hg => r_move (cv_get (ch.get rfl) hg)) fun h0 ci _ => ?_)
  refine sq (opk_gval ci rfl rfl (g := ((true && ((!j) == false)) && ((decide (0 < (c.n : Int))) == true))) (e := (decide ((o.n : Int) ≠ 2))) rfl (fun hg => r_move (ci.get rfl)) fun h1 cj _ => ?_)
  obtain ⟨aJ,ck,fM⟩ := fK
  refine sq (opk_gval cj rfl rfl (g := ((true && ((!j) == false)) && ((decide (0 < (c.n : Int))) == true))) (e := (decide ((o.n : Int) ≠ 2))) rfl (fun hg => r_indexAddr (cv_get (cj.get rfl) hg) rfl tU26 ti_28 (ck ⟨(b_not_f (g_f (g_up (g_up hg)))),(of_decide_eq_true (g_t (g_up hg))),(of_decide_eq_false (g_f hg))⟩).1 (ck ⟨(b_not_f (g_f (g_up (g_up hg)))),(of_decide_eq_true (g_t (g_up hg))),(of_decide_eq_false (g_f hg))⟩).2) fun h2 cl _ => ?_)
  refine sq (opk_gval cl rfl rfl (g := ((true && ((!j) == false)) && ((decide (0 < (c.n : Int))) == true))) (e := (decide ((o.n : Int) ≠ 2))) rfl (fun hg => r_fieldAddr (cv_get (cl.get rfl) hg) Tryz.underlying28 rfl ti_9 (by decide)) fun h3 cm _ => ?_)
  obtain ⟨ap,fN,cn⟩ := fM
  refine sq (opk_gval cm rfl rfl (g := ((true && ((!j) == false)) && ((decide (0 < (c.n : Int))) == true))) (e := (decide ((o.n : Int) ≠ 2))) rfl (fun hg => r_load1 tU9 rfl (cv_get (cm.get rfl) hg) (fN ⟨(b_not_f (g_f (g_up (g_up hg)))),(of_decide_eq_true (g_t (g_up hg))),(of_decide_eq_false (g_f hg))⟩)) fun h4 co _ => ?_)
  refine sq (opk_gval co rfl rfl (g := ((true && ((!j) == false)) && ((decide (0 < (c.n : Int))) == true))) (e := (decide ((o.n : Int) ≠ 2))) rfl (fun hg => r_sneq (cv_get (co.get rfl) hg) rfl) fun h5 aZ _ => ?_)
  refine sq (opk_gval aZ rfl rfl (g := (true && ((!j) == false))) (e := (decide (0 < (c.n : Int)))) rfl (fun hg => r_pick_or (g := (((true && ((!j) == false)) && ((decide (0 < (c.n : Int))) == true)) && ((decide ((o.n : Int) ≠ 2)) == false))) (cv_get (aZ.get rfl) hg) (aZ.get rfl) (fun he => g_mkf hg he)) fun h6 hA286 _ => ?_)
  refine sq (opk_gval hA286 rfl rfl (g := true) (e := (!j)) rfl (fun hg => r_pick_and (g := ((true && ((!j) == false)) && ((decide (0 < (c.n : Int))) == true))) (cv_get (hA286.get rfl) hg) (hA286.get rfl) (fun he => g_mkt hg he)) fun h7 a1 _ => ?_)
  refine sqv a1 rfl (r_pick_or (g := (true && ((!j) == false))) (a1.get rfl) (a1.get rfl) (fun he => g_mkf rfl he)) fun _ fO => sq_end ?_
  have a2 := fO.kp [(6,Sl.v c),(9,Sl.v o),(72,.bool ((!j) || ((decide (0 < (c.n : Int))) && ((decide ((o.n : Int) ≠ 2)) || (decide (ap ≠ ([121] : Str)))))))] rfl
  refine then_normal ?_
  refine wp_cond_split (a2.get rfl) (fun hc => ?_) (fun hc => ?_)
  ·have fP := cn.1 ((b_or_t hc).imp (fun h => (b_not_t h)) (fun h => ⟨(of_decide_eq_true (b_and_t h).1),((b_or_t (b_and_t h).2).imp (fun h => (of_decide_eq_true h)) (fun h => (of_decide_eq_true h)))⟩))
   clear hc
   refine wp_seq (wp_region_lit ?_)
   refine sqv a2 rfl (r_assign rfl) fun _ fQ => sq_end ?_
   have cp := fQ.kp [(2,.bool false)] rfl
   refine then_normal ?_
   refine wp_ret ?_
   refine then_ret ?_
   exact res_all (vs := [.bool false]) rfl cp ⟨res_of_tmp cp rfl,trivial⟩ fP
  ·have fR := cn.2 ⟨(b_not_f (b_or_f hc).1),((b_and_f (b_or_f hc).2).imp (fun h => (of_decide_eq_false h)) (fun h => ⟨(of_decide_eq_false (b_or_f h).1),(of_decide_eq_false (b_or_f h).2)⟩))⟩
   clear hc
   refine wp_skip ?_
   refine then_normal (wp_seq (wp_seq (wp_region_lit ?_)))
   refine sqv a2 rfl (r_assign rfl) fun _ fS => sq_end ?_
   have fT := fS.kp [(6,Sl.v c),(9,Sl.v o),(11,.int .i64 0)] rfl
   refine then_normal (wp_block ?_)
   obtain ⟨aq,aD,fU,fV⟩ := fR
   refine wp_loop_st (σ := Sl × Int × World) (fun s a w => Ag 126 a [(6,Sl.v c),(9,Sl.v s.1),(11,.int .i64 s.2.1)] ∧ w = s.2.2 ∧ aq s.1 s.2.1 s.2.2) (fun s => aD s.1 s.2.1 s.2.2) (o,0,ao) ⟨fT.kp [(6,Sl.v c),(9,Sl.v o),(11,.int .i64 0)] rfl,rfl,fU⟩ ?_
   rintro ⟨b,k,r⟩ h8 w_ ⟨cq,hw_,fX⟩
   have hw_ : r = w_ := hw_.symm
   subst hw_
   have cr := fV b k _ fX
   refine wp_seq (wp_seq (wp_region_lit ?_))
   refine sqv cq rfl (r_move (cq.get rfl)) fun _ ct => sqv ct rfl (r_move (ct.get rfl)) fun _ cu => sqv cu rfl (r_len (cu.get rfl) tU44) fun _ a3 => sqv a3 rfl (r_lss (a3.get rfl) (a3.get rfl)) fun _ fY => sq_end ?_
   have q := fY.kp [(6,Sl.v c),(9,Sl.v b),(11,.int .i64 k),(76,.bool (decide (k < (c.n : Int))))] rfl
   refine then_normal ?_
   refine wp_cond_split (q.get rfl) (fun hc => ?_) (fun hc => ?_)
   ·have fZ := cr.1 (of_decide_eq_true hc)
    clear hc
    refine wp_skip ?_
    refine then_normal (wp_seq (wp_block (wp_seq (wp_seq ?_))))
    refine draw' (by kernel_rfl) fun z f0 => ?_
    have f1 : Chg [] r z := f0
    have f2 := fZ z    f1
    obtain ⟨al,cv,f3⟩ := f2
    obtain ⟨x,f4,f5⟩ := f3
    obtain ⟨ar,cx,f6⟩ := f5
    obtain ⟨y,f7,cy⟩ := f6
    refine par (D := [[],[0],[0,1],[0,1,2],[0,1,2,3],[0,1,2,3,4],[0,1,2,3,4,5],[0,1,2,3,4,5,6],[0,1,2,3],[0,1,2,3],[0,1,2,3,8,9],[0,1,2,3,8,9,10],[0,1,2,3,4,5,6,7,8,9,10,11],[0,1,2,3,4,5,6,7,8,9,10,11,12]]) (S := [0,1,2,3,4,5,6,7,8,9,10,11,12,13]) (F := []) (V := VL [(0,fun v _ => v = Sl.v b),(1,fun v _ => v = .int .i64 (b.n : Int)),(2,fun v _ => v = .bool (decide ((b.n : Int) < 1))),(3,fun v _ => v = .bool (decide ((b.n : Int) < 1))),(4,fun v _ => v = cV (true && ((decide ((b.n : Int) < 1)) == false)) (Sl.v b)),(5,fun v _ => v = cV (true && ((decide ((b.n : Int) < 1)) == false)) (.pointer (some (al.add (0 * 5))))),(6,fun v _ => v = cV (true && ((decide ((b.n : Int) < 1)) == false)) (.pointer (some ((al.add (0 * 5)).add 1)))),(7,fun v _ => v = cV (true && ((decide ((b.n : Int) < 1)) == false)) (.string (Bs x))),(8,fun v _ => v = cV (true && ((decide ((b.n : Int) < 1)) == false)) (Sl.v c)),(9,fun v _ => v = cV (true && ((decide ((b.n : Int) < 1)) == false)) (.int .i64 k)),(10,fun v _ => v = cV (true && ((decide ((b.n : Int) < 1)) == false)) (.pointer (some (ar.add (k.toNat * 1))))),(11,fun v _ => v = cV (true && ((decide ((b.n : Int) < 1)) == false)) (.string (Bs y))),(12,fun v _ => v = cV (true && ((decide ((b.n : Int) < 1)) == false)) (.bool (decide (x ≠ y)))),(13,fun v _ => v = .bool ((decide ((b.n : Int) < 1)) || (decide (x ≠ y))))]) q (by kernel_rfl) ⟨fun _ _ _ _ h => h,fun _ _ _ _ h => h,fun _ _ _ _ h => h,fun _ _ _ _ h => h,fun _ _ _ _ h => h,fun _ _ _ _ h => h,fun _ _ _ _ h => h,fun _ _ _ _ h => h,fun _ _ _ _ h => h,fun _ _ _ _ h => h,fun _ _ _ _ h => h,fun _ _ _ _ h => h,fun _ _ _ _ h => h,fun _ _ _ _ h => h,trivial⟩ ⟨?_,?_,?_,?_,?_,?_,?_,?_,?_,?_,?_,?_,?_,?_,trivial⟩ ?_
    ·intro a w hT
     have hAp := hT.ag q [(9,Sl.v b)] ⟨rfl,trivial⟩ (by kernel_rfl)
     exact ovr hAp rfl (r_move (hAp.get rfl)) fun _ => Eq.refl _
    ·intro a w hT
     have hAp := hT.ag q [] trivial (by kernel_rfl)
     have hAp := hAp.add (t := 79) (v := Sl.v b) (hT.vals 0 rfl 79 rfl)
     exact ovr hAp rfl (r_len (hAp.get rfl) tU26) fun _ => Eq.refl _
    ·intro a w hT
     have hAp := hT.ag q [] trivial (by kernel_rfl)
     have hAp := hAp.add (t := 80) (v := .int .i64 (b.n : Int)) (hT.vals 1 rfl 80 rfl)
     exact ovr hAp rfl (r_lss (hAp.get rfl) rfl) fun _ => Eq.refl _
    ·intro a w hT
     have hAp := hT.ag q [] trivial (by kernel_rfl)
     have hAp := hAp.add (t := 81) (v := .bool (decide ((b.n : Int) < 1))) (hT.vals 2 rfl 81 rfl)
     exact ovr hAp rfl (r_move (hAp.get rfl)) fun _ => Eq.refl _
    ·intro a w hT
     have hAp := hT.ag q [(9,Sl.v b)] ⟨rfl,trivial⟩ (by kernel_rfl)
     have hAp := hAp.add (t := 82) (v := .bool (decide ((b.n : Int) < 1))) (hT.vals 3 rfl 82 rfl)
     exact opk_gval hAp rfl rfl (g := true) (e := (decide ((b.n : Int) < 1))) rfl (fun hg => r_move (hAp.get rfl)) fun _ _ e => ⟨_,e,Chg.refl _ _,fun _ => Eq.refl _⟩
    ·intro a w hT
     have hAp := hT.ag q [] trivial (by kernel_rfl)
     have hAp := hAp.add (t := 82) (v := .bool (decide ((b.n : Int) < 1))) (hT.vals 3 rfl 82 rfl)
     have hAp := hAp.add (t := 83) (v := cV (true && ((decide ((b.n : Int) < 1)) == false)) (Sl.v b)) (hT.vals 4 rfl 83 rfl)
     exact opk_gval hAp rfl rfl (g := true) (e := (decide ((b.n : Int) < 1))) rfl (fun hg => r_indexAddr (cv_get (hAp.get rfl) hg) rfl tU26 ti_28 (cv (of_decide_eq_false (g_f hg))).1 (cv (of_decide_eq_false (g_f hg))).2) fun _ _ e => ⟨_,e,Chg.refl _ _,fun _ => Eq.refl _⟩
    ·intro a w hT
     have hAp := hT.ag q [] trivial (by kernel_rfl)
     have hAp := hAp.add (t := 82) (v := .bool (decide ((b.n : Int) < 1))) (hT.vals 3 rfl 82 rfl)
     have hAp := hAp.add (t := 84) (v := cV (true && ((decide ((b.n : Int) < 1)) == false)) (.pointer (some (al.add (0 * 5))))) (hT.vals 5 rfl 84 rfl)
     exact opk_gval hAp rfl rfl (g := true) (e := (decide ((b.n : Int) < 1))) rfl (fun hg => r_fieldAddr (cv_get (hAp.get rfl) hg) Tryz.underlying28 rfl ti_9 (by decide)) fun _ _ e => ⟨_,e,Chg.refl _ _,fun _ => Eq.refl _⟩
    ·intro a w hT
     have hAp := hT.ag q [] trivial (by kernel_rfl)
     have hAp := hAp.add (t := 82) (v := .bool (decide ((b.n : Int) < 1))) (hT.vals 3 rfl 82 rfl)
     have hAp := hAp.add (t := 85) (v := cV (true && ((decide ((b.n : Int) < 1)) == false)) (.pointer (some ((al.add (0 * 5)).add 1)))) (hT.vals 6 rfl 85 rfl)
     exact opk_gval hAp rfl rfl (g := true) (e := (decide ((b.n : Int) < 1))) rfl (fun hg => r_load1 tU9 rfl (cv_get (hAp.get rfl) hg) (Ext.cell hT.chg (f4 (of_decide_eq_false (g_f hg))))) fun _ _ e => ⟨_,e,Chg.refl _ _,fun _ => Eq.refl _⟩
    ·intro a w hT
     have hAp := hT.ag q [(6,Sl.v c)] ⟨rfl,trivial⟩ (by kernel_rfl)
     have hAp := hAp.add (t := 82) (v := .bool (decide ((b.n : Int) < 1))) (hT.vals 3 rfl 82 rfl)
     exact opk_gval hAp rfl rfl (g := true) (e := (decide ((b.n : Int) < 1))) rfl (fun hg => r_move (hAp.get rfl)) fun _ _ e => ⟨_,e,Chg.refl _ _,fun _ => Eq.refl _⟩
    ·intro a w hT
     have hAp := hT.ag q [(11,.int .i64 k)] ⟨rfl,trivial⟩ (by kernel_rfl)
     have hAp := hAp.add (t := 82) (v := .bool (decide ((b.n : Int) < 1))) (hT.vals 3 rfl 82 rfl)
     exact opk_gval hAp rfl rfl (g := true) (e := (decide ((b.n : Int) < 1))) rfl (fun hg => r_move (hAp.get rfl)) fun _ _ e => ⟨_,e,Chg.refl _ _,fun _ => Eq.refl _⟩
    ·intro a w hT
     have hAp := hT.ag q [] trivial (by kernel_rfl)
     have hAp := hAp.add (t := 82) (v := .bool (decide ((b.n : Int) < 1))) (hT.vals 3 rfl 82 rfl)
     have hAp := hAp.add (t := 87) (v := cV (true && ((decide ((b.n : Int) < 1)) == false)) (Sl.v c)) (hT.vals 8 rfl 87 rfl)
     have hAp := hAp.add (t := 88) (v := cV (true && ((decide ((b.n : Int) < 1)) == false)) (.int .i64 k)) (hT.vals 9 rfl 88 rfl)
     exact opk_gval hAp rfl rfl (g := true) (e := (decide ((b.n : Int) < 1))) rfl (fun hg => r_indexAddr (cv_get (hAp.get rfl) hg) (cv_get (hAp.get rfl) hg) tU44 ti_9 (cx (of_decide_eq_false (g_f hg))).1 (cx (of_decide_eq_false (g_f hg))).2) fun _ _ e => ⟨_,e,Chg.refl _ _,fun _ => Eq.refl _⟩
    ·intro a w hT
     have hAp := hT.ag q [] trivial (by kernel_rfl)
     have hAp := hAp.add (t := 82) (v := .bool (decide ((b.n : Int) < 1))) (hT.vals 3 rfl 82 rfl)
     have hAp := hAp.add (t := 89) (v := cV (true && ((decide ((b.n : Int) < 1)) == false)) (.pointer (some (ar.add (k.toNat * 1))))) (hT.vals 10 rfl 89 rfl)
     exact opk_gval hAp rfl rfl (g := true) (e := (decide ((b.n : Int) < 1))) rfl (fun hg => r_load1 tU9 rfl (cv_get (hAp.get rfl) hg) (Ext.cell hT.chg (f7 (of_decide_eq_false (g_f hg))))) fun _ _ e => ⟨_,e,Chg.refl _ _,fun _ => Eq.refl _⟩
    ·intro a w hT
     have hAp := hT.ag q [] trivial (by kernel_rfl)
     have hAp := hAp.add (t := 82) (v := .bool (decide ((b.n : Int) < 1))) (hT.vals 3 rfl 82 rfl)
     have hAp := hAp.add (t := 86) (v := cV (true && ((decide ((b.n : Int) < 1)) == false)) (.string (Bs x))) (hT.vals 7 rfl 86 rfl)
     have hAp := hAp.add (t := 90) (v := cV (true && ((decide ((b.n : Int) < 1)) == false)) (.string (Bs y))) (hT.vals 11 rfl 90 rfl)
     exact opk_gval hAp rfl rfl (g := true) (e := (decide ((b.n : Int) < 1))) rfl (fun hg => r_sneq (cv_get (hAp.get rfl) hg) (cv_get (hAp.get rfl) hg)) fun _ _ e => ⟨_,e,Chg.refl _ _,fun _ => Eq.refl _⟩
    ·intro a w hT
     have hAp := hT.ag q [] trivial (by kernel_rfl)
     have hAp := hAp.add (t := 82) (v := .bool (decide ((b.n : Int) < 1))) (hT.vals 3 rfl 82 rfl)
     have hAp := hAp.add (t := 91) (v := cV (true && ((decide ((b.n : Int) < 1)) == false)) (.bool (decide (x ≠ y)))) (hT.vals 12 rfl 91 rfl)
     exact ovr hAp rfl (r_pick_or (g := (true && ((decide ((b.n : Int) < 1)) == false))) (hAp.get rfl) (hAp.get rfl) (fun he => g_mkf rfl he)) fun _ => Eq.refl _
    ·intro f8 u f9 ga gc
     have gd := ga [(6,Sl.v c),(9,Sl.v b),(11,.int .i64 k)] ⟨rfl,rfl,rfl,trivial⟩ (by kernel_rfl)
     have gf : f8.tmps.getD 92 undef = .bool ((decide ((b.n : Int) < 1)) || (decide (x ≠ y))) := gc 13 rfl 92 rfl
     have gg := gd.add gf
     have cz : Chg [] z u := f9
     refine PR_end (by kernel_rfl) ?_
     have aH := gg.kp [(6,Sl.v c),(9,Sl.v b),(11,.int .i64 k),(92,.bool ((decide ((b.n : Int) < 1)) || (decide (x ≠ y))))] rfl
     refine then_normal ?_
     refine wp_cond_split (aH.get rfl) (fun hc => ?_) (fun hc => ?_)
     ·have gh := cy.1 ((b_or_t hc).imp (fun h => (of_decide_eq_true h)) (fun h => (of_decide_eq_true h)))
      clear hc
      refine wp_seq (wp_region_lit ?_)
      refine sqv aH rfl (r_assign rfl) fun _ gj => sq_end ?_
      have cA := gj.kp [(2,.bool false)] rfl
      refine then_normal ?_
      refine wp_ret ?_
      refine then_ret ?_
      refine block_ret ?_
      refine then_ret ?_
      refine then_ret ?_
      refine block_ret ?_
      refine then_ret ?_
      have gm := gh u    cz
      exact res_all (vs := [.bool false]) rfl cA ⟨res_of_tmp cA rfl,trivial⟩ gm
     ·have gq := cy.2 ⟨(of_decide_eq_false (b_or_f hc).1),(of_decide_eq_false (b_or_f hc).2)⟩
      clear hc
      refine wp_skip ?_
      refine then_normal (wp_region_lit ?_)
      refine sqv aH rfl (r_move (aH.get rfl)) fun _ cB => ?_
      obtain ⟨gu,aK,gG,gJ⟩ := gq
      refine sqv cB rfl (r_indexAddr (cB.get rfl) rfl tU26 ti_28 gu gG) fun _ cD => sqv cD rfl (r_fieldAddr (cD.get rfl) Tryz.underlying28 rfl ti_26 (by decide)) fun _ cF => ?_
      have gU := gJ u    cz
      obtain ⟨ad,gY,g0⟩ := gU
      refine sqv cF rfl (r_load1 tU26 rfl (cF.get rfl) gY) fun _ cH => sqv cH rfl (r_assign (cH.get rfl)) fun _ g4 => sq_end ?_
      have cI := g4.kp [(6,Sl.v c),(9,Sl.v ad),(11,.int .i64 k)] rfl
      refine block_normal ?_
      refine then_normal (wp_region_lit ?_)
      refine sqv cI rfl (r_move (cI.get rfl)) fun _ cJ => ?_
      obtain ⟨g5,cK⟩ := g0
      refine sqv cJ rfl (r_addI (cJ.get rfl) rfl g5) fun _ cL => sqv cL rfl (r_assign (cL.get rfl)) fun _ g6 => sq_end ?_
      have g7 := g6.kp [(6,Sl.v c),(9,Sl.v ad),(11,.int .i64 (k + 1))] rfl
      have g8 := g7.kp [(6,Sl.v c),(9,Sl.v ad),(11,.int .i64 (k + 1))] rfl
      exact then_normal ⟨(ad,k + 1,u),⟨g8,rfl,cK.1⟩,cK.2⟩
   ·have cM := cr.2 (of_decide_eq_false hc)
    clear hc
    refine wp_exit ?_
    refine then_exit ?_
    refine then_exit ?_
    refine block_hit ?_
    have cN := q.kp [(6,Sl.v c),(9,Sl.v b)] rfl
    refine then_normal (wp_seq (wp_seq (wp_region_lit ?_)))
    refine sqv cN rfl (r_move (cN.get rfl)) fun _ cO => sqv cO rfl (r_len (cO.get rfl) tU44) fun _ cP => sqv cP rfl (r_eql (cP.get rfl) rfl) fun _ g9 => sq_end ?_
    have az := g9.kp [(9,Sl.v b),(99,.bool (decide ((c.n : Int) = 0)))] rfl
    refine then_normal ?_
    refine wp_cond_split (az.get rfl) (fun hc => ?_) (fun hc => ?_)
    ·have ha := cM.1 (of_decide_eq_true hc)
     clear hc
     refine wp_seq (wp_region_lit ?_)
     refine sqv az rfl (r_move (az.get rfl)) fun _ cQ => sqv cQ rfl (r_len (cQ.get rfl) tU26) fun _ cS => sqv cS rfl (r_eql (cS.get rfl) rfl) fun _ cU => sqv cU rfl (r_move (cU.get rfl)) fun _ cY => ?_
     refine sq (opk_gval cY rfl rfl (g := true) (e := (decide ((b.n : Int) = 1))) rfl (fun hg => r_move (cY.get rfl)) fun h9 cZ _ => ?_)
     obtain ⟨aL,c0,hb⟩ := ha
     refine sq (opk_gval cZ rfl rfl (g := true) (e := (decide ((b.n : Int) = 1))) rfl (fun hg => r_indexAddr (cv_get (cZ.get rfl) hg) rfl tU26 ti_28 (c0 (of_decide_eq_true (g_t hg))).1 (c0 (of_decide_eq_true (g_t hg))).2) fun ia c1 _ => ?_)
     refine sq (opk_gval c1 rfl rfl (g := true) (e := (decide ((b.n : Int) = 1))) rfl (fun hg => r_fieldAddr (cv_get (c1.get rfl) hg) Tryz.underlying28 rfl ti_9 (by decide)) fun ib c2 _ => ?_)
     obtain ⟨af,hd,hf⟩ := hb
     refine sq (opk_gval c2 rfl rfl (g := true) (e := (decide ((b.n : Int) = 1))) rfl (fun hg => r_load1 tU9 rfl (cv_get (c2.get rfl) hg) (hd (of_decide_eq_true (g_t hg)))) fun ig c3 _ => ?_)
     refine sq (opk_gval c3 rfl rfl (g := true) (e := (decide ((b.n : Int) = 1))) rfl (fun hg => r_seql (cv_get (c3.get rfl) hg) rfl) fun ih a4 _ => ?_)
     refine sqv a4 rfl (r_pick_and (g := (true && ((decide ((b.n : Int) = 1)) == true))) (a4.get rfl) (a4.get rfl) (fun he => g_mkt rfl he)) fun _ c4 => sqv c4 rfl (r_move (c4.get rfl)) fun _ hh => ?_
     obtain ⟨au,hi,hj⟩ := hf
     refine sq (opk_gcall hh rfl rfl (g := true) (e := ((decide ((b.n : Int) = 1)) && (decide (af = ([120,121] : Str))))) rfl (fun hg => r_call (args := #[]) Tryz.func10 (by decide) rfl (map_arr ml_nil) rfl) (fun hg => hi ⟨(of_decide_eq_true (b_and_t (g_t hg)).1),(of_decide_eq_true (b_and_t (g_t hg)).2)⟩) fun ii av a5 _ c5 => ?_)
     have ij : Chg [] r av := c5
     have hk := hj av c5
     refine sqv a5 rfl (r_pick_and (g := (true && (((decide ((b.n : Int) = 1)) && (decide (af = ([120,121] : Str)))) == true))) (a5.get rfl) (a5.get rfl) (fun he => g_mkt rfl he)) fun _ c6 => sqv c6 rfl (r_assign (c6.get rfl)) fun _ hl => sq_end ?_
     have c7 := hl.kp [(2,.bool (((decide ((b.n : Int) = 1)) && (decide (af = ([120,121] : Str)))) && au))] rfl
     refine then_normal ?_
     refine wp_ret ?_
     refine then_ret ?_
     exact res_all (vs := [.bool (((decide ((b.n : Int) = 1)) && (decide (af = ([120,121] : Str)))) && au)]) rfl c7 ⟨res_of_tmp c7 rfl,trivial⟩ hk
    ·have hm := cM.2 (of_decide_eq_false hc)
     clear hc
     refine wp_skip ?_
     refine then_normal (wp_seq (wp_region_lit ?_))
     refine sqv az rfl (r_move (az.get rfl)) fun _ c8 => sqv c8 rfl (r_len (c8.get rfl) tU26) fun _ c9 => sqv c9 rfl (r_eql (c9.get rfl) rfl) fun _ da => sqv da rfl (r_move (da.get rfl)) fun _ db => ?_
     refine sq (opk_gval db rfl rfl (g := true) (e := (decide ((b.n : Int) = 1))) rfl (fun hg => r_move (db.get rfl)) fun ik dc _ => ?_)
     obtain ⟨aM,dd,hn⟩ := hm
     refine sq (opk_gval dc rfl rfl (g := true) (e := (decide ((b.n : Int) = 1))) rfl (fun hg => r_indexAddr (cv_get (dc.get rfl) hg) rfl tU26 ti_28 (dd (of_decide_eq_true (g_t hg))).1 (dd (of_decide_eq_true (g_t hg))).2) fun il df _ => ?_)
     refine sq (opk_gval df rfl rfl (g := true) (e := (decide ((b.n : Int) = 1))) rfl (fun hg => r_fieldAddr (cv_get (df.get rfl) hg) Tryz.underlying28 rfl ti_9 (by decide)) fun im dg _ => ?_)
     obtain ⟨ah,ho,hp⟩ := hn
     refine sq (opk_gval dg rfl rfl (g := true) (e := (decide ((b.n : Int) = 1))) rfl (fun hg => r_load1 tU9 rfl (cv_get (dg.get rfl) hg) (ho (of_decide_eq_true (g_t hg)))) fun io dh _ => ?_)
     refine sq (opk_gval dh rfl rfl (g := true) (e := (decide ((b.n : Int) = 1))) rfl (fun hg => r_seql (cv_get (dh.get rfl) hg) rfl) fun ip a6 _ => ?_)
     refine sqv a6 rfl (r_pick_and (g := (true && ((decide ((b.n : Int) = 1)) == true))) (a6.get rfl) (a6.get rfl) (fun he => g_mkt rfl he)) fun _ di => sqv di rfl (r_move (di.get rfl)) fun _ hq => ?_
     obtain ⟨ax,hs,ht⟩ := hp
     refine sq (opk_gcall hq rfl rfl (g := true) (e := ((decide ((b.n : Int) = 1)) && (decide (ah = ([120] : Str))))) rfl (fun hg => r_call (args := #[]) Tryz.func10 (by decide) rfl (map_arr ml_nil) rfl) (fun hg => hs ⟨(of_decide_eq_true (b_and_t (g_t hg)).1),(of_decide_eq_true (b_and_t (g_t hg)).2)⟩) fun iq ay hA522 _ dj => ?_)
     have ir : Chg [] r ay := dj
     have hu := ht ay dj
     refine sqv hA522 rfl (r_pick_and (g := (true && (((decide ((b.n : Int) = 1)) && (decide (ah = ([120] : Str)))) == true))) (hA522.get rfl) (hA522.get rfl) (fun he => g_mkt rfl he)) fun _ dk => sqv dk rfl (r_assign (dk.get rfl)) fun _ hv => sq_end ?_
     have dl := hv.kp [(2,.bool (((decide ((b.n : Int) = 1)) && (decide (ah = ([120] : Str)))) && ax))] rfl
     refine then_normal ?_
     refine wp_ret ?_
     exact res_all (vs := [.bool (((decide ((b.n : Int) = 1)) && (decide (ah = ([120] : Str)))) && ax)]) rfl dl ⟨res_of_tmp dl rfl,trivial⟩ hu
end Go.Proofs.YtenokfdkckhhiaaGreatDoor
