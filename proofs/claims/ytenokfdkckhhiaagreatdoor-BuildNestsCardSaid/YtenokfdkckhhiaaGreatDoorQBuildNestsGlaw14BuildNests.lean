/-
  PRINTED BY PROGRAM: for each function its condition (vc), and that this suffices (ok).
-/
import Derived.Test.YtenokfdkckhhiaaGreatDoorQBuildNestsGT
namespace Go.Proofs.YtenokfdkckhhiaaGreatDoor
open Go.RowKit
set_option linter.unusedVariables false
abbrev nm8 : List Str := [([100,105,118] : Str),([98] : Str),([115,112,97,110] : Str),([117,108] : Str),([115,101,99,116,105,111,110] : Str),([105] : Str),([101,109] : Str),([120,45,121] : Str)]
set_option maxHeartbeats 1000000
set_option maxRecDepth 10000
def law14_BuildNests.vc (i : Sl) (R : Value → World → Prop) (w : World) : Prop :=
∀ (aj : World) (o : Nat),New w o aj → Chg [] w aj →
∃ (an : Str → Str → Sl → Int → World → Prop) (aB : Str → Str → Sl → Int → World → Nat),
an ([] : Str) ([] : Str) Sl.nil 0 aj ∧
(∀ (m : Str) (q : Str) (c : Sl) (f : Int) (ak : World),an m q c f ak →
(((f < (i.n : Int)) ∧ (f < 20)) →
((0 : Int) ≤ f ∧ f < (i.n : Int)) ∧ ∃ aJ : Addr,i.a = some aJ ∧
∃ (aC : Int),(ak.cell? (aJ.add (f.toNat * 1)) = some (.int .i64 aC)) ∧
CallK Tryz.prog 15 #[.int .i64 aC,.int .i64 8] ak [o] (fun v ao => ∃ (d : Int),v = .int .i64 d ∧
((0 : Int) ≤ d ∧ d < 8) ∧
(List.length m + List.length ([60] : Str) ≤ 9223372036854775807) ∧
(List.length (m ++ ([60] : Str)) + List.length (j.getD d.toNat []) ≤ 9223372036854775807) ∧
(List.length ((m ++ ([60] : Str)) ++ (j.getD d.toNat [])) + List.length ([62] : Str) ≤ 9223372036854775807) ∧
(List.length ([60,47] : Str) + List.length (j.getD d.toNat []) ≤ 9223372036854775807) ∧
(List.length (([60,47] : Str) ++ (j.getD d.toNat [])) + List.length ([62] : Str) ≤ 9223372036854775807) ∧
(List.length ((([60,47] : Str) ++ (j.getD d.toNat [])) ++ ([62] : Str)) + List.length q ≤ 9223372036854775807) ∧
∀ (ab : World) (al : Nat),New ao al ab → Chg [] ao ab →
∀ (_ : Box ab al 9 [.string (Bs (j.getD d.toNat []))]),
RunK Tryz.prog (Builtin.append_ #[44,44] 44 #[Sl.v c,Sl.v (Sl.mk (some ⟨al,0,none⟩) 1 1)]) ab [o] (fun v aD => ∃ (ad : Sl),v = Sl.v ad ∧
(I64 (f + 1)) ∧
an (((m ++ ([60] : Str)) ++ (j.getD d.toNat [])) ++ ([62] : Str)) (((([60,47] : Str) ++ (j.getD d.toNat [])) ++ ([62] : Str)) ++ q) ad (f + 1) aD ∧ aB (((m ++ ([60] : Str)) ++ (j.getD d.toNat [])) ++ ([62] : Str)) (((([60,47] : Str) ++ (j.getD d.toNat [])) ++ ([62] : Str)) ++ q) ad (f + 1) aD < aB m q c f ak))) ∧
(((¬ (f < (i.n : Int))) ∨ (¬ (f < 20))) →
(List.length ([60,98,111,100,121,62] : Str) + List.length m ≤ 9223372036854775807) ∧
(List.length (([60,98,111,100,121,62] : Str) ++ m) + List.length ([120] : Str) ≤ 9223372036854775807) ∧
(List.length ((([60,98,111,100,121,62] : Str) ++ m) ++ ([120] : Str)) + List.length q ≤ 9223372036854775807) ∧
(List.length (((([60,98,111,100,121,62] : Str) ++ m) ++ ([120] : Str)) ++ q) + List.length ([121] : Str) ≤ 9223372036854775807) ∧
CallK Tryz.prog 18 #[.string (Bs ((((([60,98,111,100,121,62] : Str) ++ m) ++ ([120] : Str)) ++ q) ++ ([121] : Str)))] ak [] (fun v ap => ∃ (p : Sl) (k : Bool),v = .tuple #[Sl.v p,.bool k] ∧
∃ aK : Addr,(((k = true) ∧ (0 < (c.n : Int)) ∧ (¬ ((p.n : Int) ≠ 2))) → ((0 : Int) ≤ 1 ∧ 1 < (p.n : Int)) ∧  p.a = some aK) ∧
∃ (aq : Str),(((k = true) ∧ (0 < (c.n : Int)) ∧ (¬ ((p.n : Int) ≠ 2))) → ap.cell? ((aK.add (1 * 5)).add 2) = some (.string (Bs aq))) ∧
(((k = false) ∨ ((0 < (c.n : Int)) ∧ (((p.n : Int) ≠ 2) ∨ (aq ≠ ([121] : Str))))) →
R (.bool false) ap) ∧
(((k = true) ∧ ((¬ (0 < (c.n : Int))) ∨ ((¬ ((p.n : Int) ≠ 2)) ∧ (¬ (aq ≠ ([121] : Str)))))) →
∃ (ar : Sl → Int → World → Prop) (aG : Sl → Int → World → Nat),
ar p 0 ap ∧
(∀ (b : Sl) (l : Int) (u : World),ar b l u →
((l < (c.n : Int)) →
∀ (aa : World),Chg [] u aa →
∃ am : Addr,(((¬ ((b.n : Int) < 1))) → ((0 : Int) ≤ 0 ∧ 0 < (b.n : Int)) ∧ b.a = some am) ∧
∃ (y : Str),(((¬ ((b.n : Int) < 1))) → aa.cell? ((am.add (0 * 5)).add 1) = some (.string (Bs y))) ∧
∃ au : Addr,(((¬ ((b.n : Int) < 1))) → ((0 : Int) ≤ l ∧ l < (c.n : Int)) ∧ c.a = some au) ∧
∃ (z : Str),(((¬ ((b.n : Int) < 1))) → aa.cell? (au.add (l.toNat * 1)) = some (.string (Bs z))) ∧
((((b.n : Int) < 1) ∨ (y ≠ z)) →
∀ (x : World),Chg [] aa x →
R (.bool false) x) ∧
(((¬ ((b.n : Int) < 1)) ∧ (¬ (y ≠ z))) →
((0 : Int) ≤ 0 ∧ 0 < (b.n : Int)) ∧ ∃ aL : Addr,b.a = some aL ∧
∀ (x : World),Chg [] aa x →
∃ (af : Sl),(x.cell? ((aL.add (0 * 5)).add 4) = some (Sl.v af)) ∧
(I64 (l + 1)) ∧
ar af (l + 1) x ∧ aG af (l + 1) x < aG b l u)) ∧
((¬ (l < (c.n : Int))) →
(((c.n : Int) = 0) →
∃ aM : Addr,((((b.n : Int) = 1)) → ((0 : Int) ≤ 0 ∧ 0 < (b.n : Int)) ∧  b.a = some aM) ∧
∃ (ah : Str),((((b.n : Int) = 1)) → u.cell? ((aM.add (0 * 5)).add 2) = some (.string (Bs ah))) ∧
∃ (av : Bool),(((((b.n : Int) = 1) ∧ (ah = ([120,121] : Str)))) → Calls Tryz.prog 10 #[] u (Ret fun v w' => Ext u w' ∧ v = .bool av)) ∧
(∀ ax : World,Ext u ax →
R (.bool (((decide ((b.n : Int) = 1)) && (decide (ah = ([120,121] : Str)))) && av)) ax)) ∧
((¬ ((c.n : Int) = 0)) →
∃ aN : Addr,((((b.n : Int) = 1)) → ((0 : Int) ≤ 0 ∧ 0 < (b.n : Int)) ∧  b.a = some aN) ∧
∃ (ai : Str),((((b.n : Int) = 1)) → u.cell? ((aN.add (0 * 5)).add 2) = some (.string (Bs ai))) ∧
∃ (ay : Bool),(((((b.n : Int) = 1) ∧ (ai = ([120] : Str)))) → Calls Tryz.prog 10 #[] u (Ret fun v w' => Ext u w' ∧ v = .bool ay)) ∧
(∀ az : World,Ext u az →
R (.bool (((decide ((b.n : Int) = 1)) && (decide (ai = ([120] : Str)))) && ay)) az))))))))
theorem law14_BuildNests.ok (i : Sl) {R : Value → World → Prop} {w : World} (a9 : law14_BuildNests.vc i R w) : Calls Tryz.prog 6 #[Sl.v i] w (Ret R) := by
 refine enter [Sl.v i] Tryz.func6 rfl Tryz.ntmps6 rfl ?_
 intro a0 dn
 unfold law14_BuildNests.vc at a9
 refine wp_seq (wp_region_lit ?_)
 refine sqv dn rfl (r_assign rfl) fun _ dp => sq_end ?_
 have dq := dp.kp [(0,Sl.v i)] rfl
 refine then_normal (wp_seq (wp_region_lit ?_))
 refine sqv dq rfl (r_buildA (vs := #[(0,.string (Bs ([100,105,118] : Str))),(1,.string (Bs ([98] : Str))),(2,.string (Bs ([115,112,97,110] : Str))),(3,.string (Bs ([117,108] : Str))),(4,.string (Bs ([115,101,99,116,105,111,110] : Str))),(5,.string (Bs ([105] : Str))),(6,.string (Bs ([101,109] : Str))),(7,.string (Bs ([120,45,121] : Str)))]) (cells := #[.string (Bs ([100,105,118] : Str)),.string (Bs ([98] : Str)),.string (Bs ([115,112,97,110] : Str)),.string (Bs ([117,108] : Str)),.string (Bs ([115,101,99,116,105,111,110] : Str)),.string (Bs ([105] : Str)),.string (Bs ([101,109] : Str)),.string (Bs ([120,45,121] : Str))]) (map_arr2 (ml2_cons rfl (ml2_cons rfl (ml2_cons rfl (ml2_cons rfl (ml2_cons rfl (ml2_cons rfl (ml2_cons rfl (ml2_cons rfl (ml2_nil)))))))))) ti_43 Tryz.underlying43 ti_9 (by kernel_rfl)) fun _ dr => ?_
 refine sq (opk_new (fun B => .pointer (some ⟨B,0,none⟩)) dr rfl (r_alloc (cs := [.string (Bs []),.string (Bs []),.string (Bs []),.string (Bs []),.string (Bs []),.string (Bs []),.string (Bs []),.string (Bs [])]) ti_43 rfl) fun a7 w6 o ds dt bb aO _ => ?_)
 have bd : New w o w6 := dt
 have du : Chg [] w w6 := ds
 refine sq (opk_store aO bb (r_store (vs := [.string (Bs ([100,105,118] : Str)),.string (Bs ([98] : Str)),.string (Bs ([115,112,97,110] : Str)),.string (Bs ([117,108] : Str)),.string (Bs ([115,101,99,116,105,111,110] : Str)),.string (Bs ([105] : Str)),.string (Bs ([101,109] : Str)),.string (Bs ([120,45,121] : Str))]) (aO.get rfl) (aO.get rfl) rfl ti_43 bb rfl (ones_all _ rfl)) fun hA aj bf dv dx => ?_)
 have dy : Box aj o 43 [.string (Bs ([100,105,118] : Str)),.string (Bs ([98] : Str)),.string (Bs ([115,112,97,110] : Str)),.string (Bs ([117,108] : Str)),.string (Bs ([115,101,99,116,105,111,110] : Str)),.string (Bs ([105] : Str)),.string (Bs ([101,109] : Str)),.string (Bs ([120,45,121] : Str))] := dv
 have dz := du.storeNew bd bf
 have dA := bd.up bf.size
 refine sq_end ?_
 have dB := dx.kp [(0,Sl.v i),(3,pB o 0)] rfl
 refine then_normal (wp_seq (wp_region_lit ?_))
 refine sqv dB rfl (r_assign rfl) fun _ dC => sqv dC rfl (r_assign rfl) fun _ dD => sq_end ?_
 have dG := dD.kp [(0,Sl.v i),(3,pB o 0),(4,.string (Bs [])),(5,.string (Bs []))] rfl
 refine then_normal (wp_seq (wp_region_lit ?_))
 refine sqv dG rfl (r_assign rfl) fun _ dH => sq_end ?_
 have dI := dH.kp [(0,Sl.v i),(3,pB o 0),(4,.string (Bs [])),(5,.string (Bs [])),(6,Sl.v Sl.nil)] rfl
 refine then_normal (wp_seq (wp_seq (wp_region_lit ?_)))
 refine sqv dI rfl (r_assign rfl) fun _ dJ => sq_end ?_
 have dK := dJ.kp [(0,Sl.v i),(3,pB o 0),(4,.string (Bs [])),(5,.string (Bs [])),(6,Sl.v Sl.nil),(7,.int .i64 0)] rfl
 refine then_normal (wp_block ?_)
 have dL := a9 aj o dA  dz
 obtain ⟨an,aB,dM,dN⟩ := dL
 refine wp_loop_st (σ := Str × Str × Sl × Int × World) (fun s a w => Ag 126 a [(0,Sl.v i),(3,pB o 0),(4,.string (Bs s.1)),(5,.string (Bs s.2.1)),(6,Sl.v s.2.2.1),(7,.int .i64 s.2.2.2.1)] ∧ Box w o 43 [.string (Bs ([100,105,118] : Str)),.string (Bs ([98] : Str)),.string (Bs ([115,112,97,110] : Str)),.string (Bs ([117,108] : Str)),.string (Bs ([115,101,99,116,105,111,110] : Str)),.string (Bs ([105] : Str)),.string (Bs ([101,109] : Str)),.string (Bs ([120,45,121] : Str))] ∧ w = s.2.2.2.2 ∧ an s.1 s.2.1 s.2.2.1 s.2.2.2.1 s.2.2.2.2) (fun s => aB s.1 s.2.1 s.2.2.1 s.2.2.2.1 s.2.2.2.2) (([] : Str),([] : Str),Sl.nil,0,aj) ⟨dK.kp [(0,Sl.v i),(3,pB o 0),(4,.string (Bs [])),(5,.string (Bs [])),(6,Sl.v Sl.nil),(7,.int .i64 0)] rfl,dy,rfl,dM⟩ ?_
 rintro ⟨m,q,c,f,ak⟩ hB w_ ⟨bg,dO,hw_,dP⟩
 have hw_ : ak = w_ := hw_.symm
 subst hw_
 have bi := dN m q c f _ dP
 refine wp_seq (wp_seq (wp_region_lit ?_))
 refine sqv bg rfl (r_move (bg.get rfl)) fun _ bj => sqv bj rfl (r_move (bj.get rfl)) fun _ bk => sqv bk rfl (r_len (bk.get rfl) tU42) fun _ aP => sqv aP rfl (r_lss (aP.get rfl) (aP.get rfl)) fun _ bl => sqv bl rfl (r_move (bl.get rfl)) fun _ bo => ?_
 refine sq (opk_gval bo rfl rfl (g := true) (e := (decide (f < (i.n : Int)))) rfl (fun hg => r_move (bo.get rfl)) fun hC bp _ => ?_)
 refine sq (opk_gval bp rfl rfl (g := true) (e := (decide (f < (i.n : Int)))) rfl (fun hg => r_lss (cv_get (bp.get rfl) hg) rfl) fun hD aQ _ => ?_)
 refine sqv aQ rfl (r_pick_and (g := (true && ((decide (f < (i.n : Int))) == true))) (aQ.get rfl) (aQ.get rfl) (fun he => g_mkt rfl he)) fun _ dQ => sq_end ?_
 have aH := dQ.kp [(0,Sl.v i),(3,pB o 0),(4,.string (Bs m)),(5,.string (Bs q)),(6,Sl.v c),(7,.int .i64 f),(20,.bool ((decide (f < (i.n : Int))) && (decide (f < 20))))] rfl
 refine then_normal ?_
 refine wp_cond_split (aH.get rfl) (fun hc => ?_) (fun hc => ?_)
 ·have dR := bi.1 ⟨(of_decide_eq_true (b_and_t hc).1),(of_decide_eq_true (b_and_t hc).2)⟩
  clear hc
  refine wp_skip ?_
  refine then_normal (wp_seq (wp_block (wp_seq (wp_region_lit ?_))))
  refine sqv aH rfl (r_move (aH.get rfl)) fun _ bq => sqv bq rfl (r_move (bq.get rfl)) fun _ aR => ?_
  obtain ⟨dS,aJ,dU,dV⟩ := dR
  refine sqv aR rfl (r_indexAddr (aR.get rfl) (aR.get rfl) tU42 ti_3 dS dU) fun _ bs => ?_
  obtain ⟨aC,dX,dY⟩ := dV
  refine sqv bs rfl (r_load1 tU3 rfl (bs.get rfl) dX) fun _ bt => ?_
  refine sq (opk_call bt rfl (r_call (args := #[.int .i64 aC,.int .i64 8]) Tryz.func15 (by decide) rfl (map_arr (ml_cons (bt.get rfl) (ml_cons rfl ml_nil))) rfl) dY fun hF hG ao aS _ dZ hH d0 => ?_)
  obtain ⟨d,rfl,d1⟩ := d0
  have aU := dO.kept dZ (.head _)
  obtain ⟨bu,d2⟩ := d1
  refine sqv aS rfl (r_indexAddrA (aS.get rfl) (aS.get rfl) Tryz.underlying43 ti_9 bu) fun _ bv => sqv bv rfl (r_load1 tU9 rfl (bv.get rfl) (Box.cellA j (fun s => Value.string (Bs s)) [] aU rfl rfl bu)) fun _ bx => sqv bx rfl (r_assign (bx.get rfl)) fun _ d3 => sq_end ?_
  have bz := d3.kp [(0,Sl.v i),(3,pB o 0),(4,.string (Bs m)),(5,.string (Bs q)),(6,Sl.v c),(7,.int .i64 f),(8,.string (Bs (j.getD d.toNat [])))] rfl
  refine then_normal (wp_seq (wp_region_lit ?_))
  refine sqv bz rfl (r_move (bz.get rfl)) fun _ bA => ?_
  obtain ⟨d4,d5⟩ := d2
  refine sqv bA rfl (r_sadd (bA.get rfl) rfl d4) fun _ bB => sqv bB rfl (r_move (bB.get rfl)) fun _ aV => ?_
  obtain ⟨d6,d7⟩ := d5
  refine sqv aV rfl (r_sadd (aV.get rfl) (aV.get rfl) d6) fun _ bC => ?_
  obtain ⟨d8,d9⟩ := d7
  refine sqv bC rfl (r_sadd (bC.get rfl) rfl d8) fun _ bD => sqv bD rfl (r_assign (bD.get rfl)) fun _ fa => sq_end ?_
  have bF := fa.kp [(0,Sl.v i),(3,pB o 0),(4,.string (Bs (((m ++ ([60] : Str)) ++ (j.getD d.toNat [])) ++ ([62] : Str)))),(5,.string (Bs q)),(6,Sl.v c),(7,.int .i64 f),(8,.string (Bs (j.getD d.toNat [])))] rfl
  refine then_normal (wp_seq (wp_region_lit ?_))
  refine sqv bF rfl (r_move (bF.get rfl)) fun _ bG => ?_
  obtain ⟨fb,fc⟩ := d9
  refine sqv bG rfl (r_sadd rfl (bG.get rfl) fb) fun _ bH => ?_
  obtain ⟨fd,ff⟩ := fc
  refine sqv bH rfl (r_sadd (bH.get rfl) rfl fd) fun _ bI => sqv bI rfl (r_move (bI.get rfl)) fun _ aX => ?_
  obtain ⟨fg,fh⟩ := ff
  refine sqv aX rfl (r_sadd (aX.get rfl) (aX.get rfl) fg) fun _ bJ => sqv bJ rfl (r_assign (bJ.get rfl)) fun _ fi => sq_end ?_
  have bK := fi.kp [(0,Sl.v i),(3,pB o 0),(4,.string (Bs (((m ++ ([60] : Str)) ++ (j.getD d.toNat [])) ++ ([62] : Str)))),(5,.string (Bs (((([60,47] : Str) ++ (j.getD d.toNat [])) ++ ([62] : Str)) ++ q))),(6,Sl.v c),(7,.int .i64 f),(8,.string (Bs (j.getD d.toNat [])))] rfl
  refine then_normal (wp_region_lit ?_)
  refine sqv bK rfl (r_move (bK.get rfl)) fun _ bL => sqv bL rfl (r_move (bL.get rfl)) fun _ bM => ?_
  refine sq (opk_new (fun B => .slice (some ⟨B,0,none⟩) 1 1) bM rfl (r_buildSlice (vs := #[(0,.string (Bs (j.getD d.toNat [])))]) (cs := [.string (Bs (j.getD d.toNat []))]) (map_arr2 (ml2_cons (bM.get rfl) (ml2_nil))) tU44 ti_9 rfl rfl (by kernel_rfl)) fun hI ab al bN bO fj aY _ => ?_)
  have hJ : o ≠ al := Nat.ne_of_lt (Nat.lt_of_lt_of_le aU.lt bO.ge)
  have fk : New ao al ab := bO
  have fl := aU.ext bN
  have fm : Chg [] ao ab := bN
  have fn := fh ab al fk  fm
  have fo := fn fj
  refine sq (opk_run aY rfl (fun _ _ hr => r_append (aY.get rfl) (aY.get rfl) hr) fo fun hK hL aD bP _ fp hM fq => ?_)
  obtain ⟨ad,rfl,fr⟩ := fq
  have fs := fl.kept fp (.head _)
  refine sqv bP rfl (r_assign (bP.get rfl)) fun _ ft => sq_end ?_
  have bQ := ft.kp [(0,Sl.v i),(3,pB o 0),(4,.string (Bs (((m ++ ([60] : Str)) ++ (j.getD d.toNat [])) ++ ([62] : Str)))),(5,.string (Bs (((([60,47] : Str) ++ (j.getD d.toNat [])) ++ ([62] : Str)) ++ q))),(6,Sl.v ad),(7,.int .i64 f)] rfl
  refine block_normal ?_
  refine then_normal (wp_region_lit ?_)
  refine sqv bQ rfl (r_move (bQ.get rfl)) fun _ bR => ?_
  obtain ⟨fu,bS⟩ := fr
  refine sqv bR rfl (r_addI (bR.get rfl) rfl fu) fun _ bT => sqv bT rfl (r_assign (bT.get rfl)) fun _ fv => sq_end ?_
  have fx := fv.kp [(0,Sl.v i),(3,pB o 0),(4,.string (Bs (((m ++ ([60] : Str)) ++ (j.getD d.toNat [])) ++ ([62] : Str)))),(5,.string (Bs (((([60,47] : Str) ++ (j.getD d.toNat [])) ++ ([62] : Str)) ++ q))),(6,Sl.v ad),(7,.int .i64 (f + 1))] rfl
  have fy := fx.kp [(0,Sl.v i),(3,pB o 0),(4,.string (Bs (((m ++ ([60] : Str)) ++ (j.getD d.toNat [])) ++ ([62] : Str)))),(5,.string (Bs (((([60,47] : Str) ++ (j.getD d.toNat [])) ++ ([62] : Str)) ++ q))),(6,Sl.v ad),(7,.int .i64 (f + 1))] rfl
  exact then_normal ⟨(((m ++ ([60] : Str)) ++ (j.getD d.toNat [])) ++ ([62] : Str),((([60,47] : Str) ++ (j.getD d.toNat [])) ++ ([62] : Str)) ++ q,ad,f + 1,aD),⟨fy,fs,rfl,bS.1⟩,bS.2⟩
 ·have fz := bi.2 ((b_and_f hc).imp (fun h => (of_decide_eq_false h)) (fun h => (of_decide_eq_false h)))
  clear hc
  refine wp_exit ?_
  refine then_exit ?_
  refine then_exit ?_
  refine block_hit ?_
  have bU := aH.kp [(4,.string (Bs m)),(5,.string (Bs q)),(6,Sl.v c)] rfl
  refine then_normal (wp_seq (wp_region_lit ?_))
  refine sqv bU rfl (r_move (bU.get rfl)) fun _ bX => ?_
  obtain ⟨fA,fB⟩ := fz
  refine sqv bX rfl (r_sadd rfl (bX.get rfl) fA) fun _ bY => ?_
  obtain ⟨fC,fD⟩ := fB
  refine sqv bY rfl (r_sadd (bY.get rfl) rfl fC) fun _ bZ => sqv bZ rfl (r_move (bZ.get rfl)) fun _ aZ => ?_
  obtain ⟨fF,fG⟩ := fD
  refine sqv aZ rfl (r_sadd (aZ.get rfl) (aZ.get rfl) fF) fun _ b0 => ?_
  obtain ⟨fH,fJ⟩ := fG
  refine sqv b0 rfl (r_sadd (b0.get rfl) rfl fH) fun _ b1 => ?_
  refine sq (opk_call b1 rfl (r_call (args := #[.string (Bs ((((([60,98,111,100,121,62] : Str) ++ m) ++ ([120] : Str)) ++ q) ++ ([121] : Str)))]) Tryz.func18 (by decide) rfl (map_arr (ml_cons (b1.get rfl) ml_nil)) rfl) fJ fun hN hO ap b2 _ hP hQ fK => ?_)
  obtain ⟨p,k,rfl,fL⟩ := fK
  refine sqv b2 rfl (r_move (b2.get rfl)) fun _ b3 => sqv b3 rfl (r_extract (b3.get rfl) rfl) fun _ b4 => sqv b4 rfl (r_extract (b4.get rfl) rfl) fun _ b5 => sqv b5 rfl (r_assign (b5.get rfl)) fun _ b6 => sqv b6 rfl (r_assign (b6.get rfl)) fun _ fM => sq_end ?_
  have b7 := fM.kp [(6,Sl.v c),(9,Sl.v p),(10,.bool k)] rfl
  refine then_normal (wp_seq (wp_seq (wp_region_lit ?_)))
  refine sqv b7 rfl (r_move (b7.get rfl)) fun _ b8 => sqv b8 rfl (r_not (b8.get rfl)) fun _ b9 => sqv b9 rfl (r_move (b9.get rfl)) fun _ ca => ?_
  refine sq (opk_gval ca rfl rfl (g := true) (e := (!k)) rfl (fun hg => r_move (ca.get rfl)) fun hR cb _ => ?_)
  refine sq (opk_gval cb rfl rfl (g := true) (e := (!k)) rfl (fun hg => r_len (cv_get (cb.get rfl) hg) tU44) fun hU cc _ => ?_)
  refine sq (opk_gval cc rfl rfl (g := true) (e := (!k)) rfl (fun hg => r_gtr (cv_get (cc.get rfl) hg) rfl) fun hV cd _ => ?_)
  refine sq (opk_gval cd rfl rfl (g := true) (e := (!k)) rfl (fun hg => r_move (cv_get (cd.get rfl) hg)) fun hX cf _ => ?_)
  refine sq (opk_gval cf rfl rfl (g := (true && ((!k) == false))) (e := (decide (0 < (c.n : Int)))) rfl (fun hg => r_move (cf.get rfl)) fun hY cg _ => ?_)
  refine sq (opk_gval cg rfl rfl (g := (true && ((!k) == false))) (e := (decide (0 < (c.n : Int)))) rfl (fun hg => r_len (cv_get (cg.get rfl) hg) tU26) fun hZ ch _ => ?_)
  refine sq (opk_gval ch rfl rfl (g := (true && ((!k) == false))) (e := (decide (0 < (c.n : Int)))) rfl (fun hg => r_neq (cv_get (ch.get rfl) hg) rfl) fun h0 ci _ => ?_)
  refine sq (opk_gval ci rfl rfl (g := (true && ((!k) == false))) (e := (decide (0 < (c.n : Int)))) rfl (fun hg => r_move (cv_get (ci.get rfl) hg)) fun h1 cj _ => ?_)
  refine sq (opk_gval cj rfl rfl (g := ((true && ((!k) == false)) && ((decide (0 < (c.n : Int))) == true))) (e := (decide ((p.n : Int) ≠ 2))) rfl (fun hg => r_move (cj.get rfl)) fun h2 ck _ => ?_)
  obtain ⟨aK,cl,fN⟩ := fL
  refine sq (opk_gval ck rfl rfl (g := ((true && ((!k) == false)) && ((decide (0 < (c.n : Int))) == true))) (e := (decide ((p.n : Int) ≠ 2))) rfl (fun hg => r_indexAddr (cv_get (ck.get rfl) hg) rfl tU26 ti_28 (cl ⟨(b_not_f (g_f (g_up (g_up hg)))),(of_decide_eq_true (g_t (g_up hg))),(of_decide_eq_false (g_f hg))⟩).1 (cl ⟨(b_not_f (g_f (g_up (g_up hg)))),(of_decide_eq_true (g_t (g_up hg))),(of_decide_eq_false (g_f hg))⟩).2) fun h3 cm _ => ?_)
  refine sq (opk_gval cm rfl rfl (g := ((true && ((!k) == false)) && ((decide (0 < (c.n : Int))) == true))) (e := (decide ((p.n : Int) ≠ 2))) rfl (fun hg => r_fieldAddr (cv_get (cm.get rfl) hg) Tryz.underlying28 rfl ti_9 (by decide)) fun h4 cn _ => ?_)
  obtain ⟨aq,fO,co⟩ := fN
  refine sq (opk_gval cn rfl rfl (g := ((true && ((!k) == false)) && ((decide (0 < (c.n : Int))) == true))) (e := (decide ((p.n : Int) ≠ 2))) rfl (fun hg => r_load1 tU9 rfl (cv_get (cn.get rfl) hg) (fO ⟨(b_not_f (g_f (g_up (g_up hg)))),(of_decide_eq_true (g_t (g_up hg))),(of_decide_eq_false (g_f hg))⟩)) fun h5 cp _ => ?_)
  refine sq (opk_gval cp rfl rfl (g := ((true && ((!k) == false)) && ((decide (0 < (c.n : Int))) == true))) (e := (decide ((p.n : Int) ≠ 2))) rfl (fun hg => r_sneq (cv_get (cp.get rfl) hg) rfl) fun h6 hA285 _ => ?_)
  refine sq (opk_gval hA285 rfl rfl (g := (true && ((!k) == false))) (e := (decide (0 < (c.n : Int)))) rfl (fun hg => r_pick_or (g := (((true && ((!k) == false)) && ((decide (0 < (c.n : Int))) == true)) && ((decide ((p.n : Int) ≠ 2)) == false))) (cv_get (hA285.get rfl) hg) (hA285.get rfl) (fun he => g_mkf hg he)) fun h7 a1 _ => ?_)
  refine sq (opk_gval a1 rfl rfl (g := true) (e := (!k)) rfl (fun hg => r_pick_and (g := ((true && ((!k) == false)) && ((decide (0 < (c.n : Int))) == true))) (cv_get (a1.get rfl) hg) (a1.get rfl) (fun he => g_mkt hg he)) fun h8 a2 _ => ?_)
  refine sqv a2 rfl (r_pick_or (g := (true && ((!k) == false))) (a2.get rfl) (a2.get rfl) (fun he => g_mkf rfl he)) fun _ fP => sq_end ?_
  have a3 := fP.kp [(6,Sl.v c),(9,Sl.v p),(72,.bool ((!k) || ((decide (0 < (c.n : Int))) && ((decide ((p.n : Int) ≠ 2)) || (decide (aq ≠ ([121] : Str)))))))] rfl
  refine then_normal ?_
  refine wp_cond_split (a3.get rfl) (fun hc => ?_) (fun hc => ?_)
  ·have fQ := co.1 ((b_or_t hc).imp (fun h => (b_not_t h)) (fun h => ⟨(of_decide_eq_true (b_and_t h).1),((b_or_t (b_and_t h).2).imp (fun h => (of_decide_eq_true h)) (fun h => (of_decide_eq_true h)))⟩))
   clear hc
   refine wp_seq (wp_region_lit ?_)
   refine sqv a3 rfl (r_assign rfl) fun _ fR => sq_end ?_
   have cq := fR.kp [(2,.bool false)] rfl
   refine then_normal ?_
   refine wp_ret ?_
   refine then_ret ?_
   exact res_all (vs := [.bool false]) rfl cq ⟨res_of_tmp cq rfl,trivial⟩ fQ
  ·have fS := co.2 ⟨(b_not_f (b_or_f hc).1),((b_and_f (b_or_f hc).2).imp (fun h => (of_decide_eq_false h)) (fun h => ⟨(of_decide_eq_false (b_or_f h).1),(of_decide_eq_false (b_or_f h).2)⟩))⟩
   clear hc
   refine wp_skip ?_
   refine then_normal (wp_seq (wp_seq (wp_region_lit ?_)))
   refine sqv a3 rfl (r_assign rfl) fun _ fT => sq_end ?_
   have fU := fT.kp [(6,Sl.v c),(9,Sl.v p),(11,.int .i64 0)] rfl
   refine then_normal (wp_block ?_)
   obtain ⟨ar,aG,fV,fX⟩ := fS
   refine wp_loop_st (σ := Sl × Int × World) (fun s a w => Ag 126 a [(6,Sl.v c),(9,Sl.v s.1),(11,.int .i64 s.2.1)] ∧ w = s.2.2 ∧ ar s.1 s.2.1 s.2.2) (fun s => aG s.1 s.2.1 s.2.2) (p,0,ap) ⟨fU.kp [(6,Sl.v c),(9,Sl.v p),(11,.int .i64 0)] rfl,rfl,fV⟩ ?_
   rintro ⟨b,l,u⟩ h9 w_ ⟨cr,hw_,fY⟩
   have hw_ : u = w_ := hw_.symm
   subst hw_
   have ct := fX b l _ fY
   refine wp_seq (wp_seq (wp_region_lit ?_))
   refine sqv cr rfl (r_move (cr.get rfl)) fun _ cu => sqv cu rfl (r_move (cu.get rfl)) fun _ cv => sqv cv rfl (r_len (cv.get rfl) tU44) fun _ a4 => sqv a4 rfl (r_lss (a4.get rfl) (a4.get rfl)) fun _ fZ => sq_end ?_
   have r := fZ.kp [(6,Sl.v c),(9,Sl.v b),(11,.int .i64 l),(76,.bool (decide (l < (c.n : Int))))] rfl
   refine then_normal ?_
   refine wp_cond_split (r.get rfl) (fun hc => ?_) (fun hc => ?_)
   ·have f0 := ct.1 (of_decide_eq_true hc)
    clear hc
    refine wp_skip ?_
    refine then_normal (wp_seq (wp_block (wp_seq (wp_seq ?_))))
    refine draw' (by kernel_rfl) fun aa f1 => ?_
    have f2 : Chg [] u aa := f1
    have f3 := f0 aa    f2
    obtain ⟨am,cx,f4⟩ := f3
    obtain ⟨y,f5,f6⟩ := f4
    obtain ⟨au,cy,f7⟩ := f6
    obtain ⟨z,f8,cz⟩ := f7
    refine par (D := [[],[0],[0,1],[0,1,2],[0,1,2,3],[0,1,2,3,4],[0,1,2,3,4,5],[0,1,2,3,4,5,6],[0,1,2,3],[0,1,2,3],[0,1,2,3,8,9],[0,1,2,3,8,9,10],[0,1,2,3,4,5,6,7,8,9,10,11],[0,1,2,3,4,5,6,7,8,9,10,11,12]]) (S := [0,1,2,3,4,5,6,7,8,9,10,11,12,13]) (F := []) (V := VL [(0,fun v _ => v = Sl.v b),(1,fun v _ => v = .int .i64 (b.n : Int)),(2,fun v _ => v = .bool (decide ((b.n : Int) < 1))),(3,fun v _ => v = .bool (decide ((b.n : Int) < 1))),(4,fun v _ => v = cV (true && ((decide ((b.n : Int) < 1)) == false)) (Sl.v b)),(5,fun v _ => v = cV (true && ((decide ((b.n : Int) < 1)) == false)) (.pointer (some (am.add (0 * 5))))),(6,fun v _ => v = cV (true && ((decide ((b.n : Int) < 1)) == false)) (.pointer (some ((am.add (0 * 5)).add 1)))),(7,fun v _ => v = cV (true && ((decide ((b.n : Int) < 1)) == false)) (.string (Bs y))),(8,fun v _ => v = cV (true && ((decide ((b.n : Int) < 1)) == false)) (Sl.v c)),(9,fun v _ => v = cV (true && ((decide ((b.n : Int) < 1)) == false)) (.int .i64 l)),(10,fun v _ => v = cV (true && ((decide ((b.n : Int) < 1)) == false)) (.pointer (some (au.add (l.toNat * 1))))),(11,fun v _ => v = cV (true && ((decide ((b.n : Int) < 1)) == false)) (.string (Bs z))),(12,fun v _ => v = cV (true && ((decide ((b.n : Int) < 1)) == false)) (.bool (decide (y ≠ z)))),(13,fun v _ => v = .bool ((decide ((b.n : Int) < 1)) || (decide (y ≠ z))))]) r (by kernel_rfl) ⟨fun _ _ _ _ h => h,fun _ _ _ _ h => h,fun _ _ _ _ h => h,fun _ _ _ _ h => h,fun _ _ _ _ h => h,fun _ _ _ _ h => h,fun _ _ _ _ h => h,fun _ _ _ _ h => h,fun _ _ _ _ h => h,fun _ _ _ _ h => h,fun _ _ _ _ h => h,fun _ _ _ _ h => h,fun _ _ _ _ h => h,fun _ _ _ _ h => h,trivial⟩ ⟨?_,?_,?_,?_,?_,?_,?_,?_,?_,?_,?_,?_,?_,?_,trivial⟩ ?_
    ·intro a w hT
     have hAp := hT.ag r [(9,Sl.v b)] ⟨rfl,trivial⟩ (by kernel_rfl)
     exact ovr hAp rfl (r_move (hAp.get rfl)) fun _ => Eq.refl _
    ·intro a w hT
     have hAp := hT.ag r [] trivial (by kernel_rfl)
     have hAp := hAp.add (t := 79) (v := Sl.v b) (hT.vals 0 rfl 79 rfl)
     exact ovr hAp rfl (r_len (hAp.get rfl) tU26) fun _ => Eq.refl _
    ·intro a w hT
     have hAp := hT.ag r [] trivial (by kernel_rfl)
     have hAp := hAp.add (t := 80) (v := .int .i64 (b.n : Int)) (hT.vals 1 rfl 80 rfl)
     exact ovr hAp rfl (r_lss (hAp.get rfl) rfl) fun _ => Eq.refl _
    ·intro a w hT
     have hAp := hT.ag r [] trivial (by kernel_rfl)
     have hAp := hAp.add (t := 81) (v := .bool (decide ((b.n : Int) < 1))) (hT.vals 2 rfl 81 rfl)
     exact ovr hAp rfl (r_move (hAp.get rfl)) fun _ => Eq.refl _
    ·intro a w hT
     have hAp := hT.ag r [(9,Sl.v b)] ⟨rfl,trivial⟩ (by kernel_rfl)
     have hAp := hAp.add (t := 82) (v := .bool (decide ((b.n : Int) < 1))) (hT.vals 3 rfl 82 rfl)
     exact opk_gval hAp rfl rfl (g := true) (e := (decide ((b.n : Int) < 1))) rfl (fun hg => r_move (hAp.get rfl)) fun _ _ e => ⟨_,e,Chg.refl _ _,fun _ => Eq.refl _⟩
    ·intro a w hT
     have hAp := hT.ag r [] trivial (by kernel_rfl)
     have hAp := hAp.add (t := 82) (v := .bool (decide ((b.n : Int) < 1))) (hT.vals 3 rfl 82 rfl)
     have hAp := hAp.add (t := 83) (v := cV (true && ((decide ((b.n : Int) < 1)) == false)) (Sl.v b)) (hT.vals 4 rfl 83 rfl)
     exact opk_gval hAp rfl rfl (g := true) (e := (decide ((b.n : Int) < 1))) rfl (fun hg => r_indexAddr (cv_get (hAp.get rfl) hg) rfl tU26 ti_28 (cx (of_decide_eq_false (g_f hg))).1 (cx (of_decide_eq_false (g_f hg))).2) fun _ _ e => ⟨_,e,Chg.refl _ _,fun _ => Eq.refl _⟩
    ·intro a w hT
     have hAp := hT.ag r [] trivial (by kernel_rfl)
     have hAp := hAp.add (t := 82) (v := .bool (decide ((b.n : Int) < 1))) (hT.vals 3 rfl 82 rfl)
     have hAp := hAp.add (t := 84) (v := cV (true && ((decide ((b.n : Int) < 1)) == false)) (.pointer (some (am.add (0 * 5))))) (hT.vals 5 rfl 84 rfl)
     exact opk_gval hAp rfl rfl (g := true) (e := (decide ((b.n : Int) < 1))) rfl (fun hg => r_fieldAddr (cv_get (hAp.get rfl) hg) Tryz.underlying28 rfl ti_9 (by decide)) fun _ _ e => ⟨_,e,Chg.refl _ _,fun _ => Eq.refl _⟩
    ·intro a w hT
     have hAp := hT.ag r [] trivial (by kernel_rfl)
     have hAp := hAp.add (t := 82) (v := .bool (decide ((b.n : Int) < 1))) (hT.vals 3 rfl 82 rfl)
     have hAp := hAp.add (t := 85) (v := cV (true && ((decide ((b.n : Int) < 1)) == false)) (.pointer (some ((am.add (0 * 5)).add 1)))) (hT.vals 6 rfl 85 rfl)
     exact opk_gval hAp rfl rfl (g := true) (e := (decide ((b.n : Int) < 1))) rfl (fun hg => r_load1 tU9 rfl (cv_get (hAp.get rfl) hg) (Ext.cell hT.chg (f5 (of_decide_eq_false (g_f hg))))) fun _ _ e => ⟨_,e,Chg.refl _ _,fun _ => Eq.refl _⟩
    ·intro a w hT
     have hAp := hT.ag r [(6,Sl.v c)] ⟨rfl,trivial⟩ (by kernel_rfl)
     have hAp := hAp.add (t := 82) (v := .bool (decide ((b.n : Int) < 1))) (hT.vals 3 rfl 82 rfl)
     exact opk_gval hAp rfl rfl (g := true) (e := (decide ((b.n : Int) < 1))) rfl (fun hg => r_move (hAp.get rfl)) fun _ _ e => ⟨_,e,Chg.refl _ _,fun _ => Eq.refl _⟩
    ·intro a w hT
     have hAp := hT.ag r [(11,.int .i64 l)] ⟨rfl,trivial⟩ (by kernel_rfl)
     have hAp := hAp.add (t := 82) (v := .bool (decide ((b.n : Int) < 1))) (hT.vals 3 rfl 82 rfl)
     exact opk_gval hAp rfl rfl (g := true) (e := (decide ((b.n : Int) < 1))) rfl (fun hg => r_move (hAp.get rfl)) fun _ _ e => ⟨_,e,Chg.refl _ _,fun _ => Eq.refl _⟩
    ·intro a w hT
     have hAp := hT.ag r [] trivial (by kernel_rfl)
     have hAp := hAp.add (t := 82) (v := .bool (decide ((b.n : Int) < 1))) (hT.vals 3 rfl 82 rfl)
     have hAp := hAp.add (t := 87) (v := cV (true && ((decide ((b.n : Int) < 1)) == false)) (Sl.v c)) (hT.vals 8 rfl 87 rfl)
     have hAp := hAp.add (t := 88) (v := cV (true && ((decide ((b.n : Int) < 1)) == false)) (.int .i64 l)) (hT.vals 9 rfl 88 rfl)
     exact opk_gval hAp rfl rfl (g := true) (e := (decide ((b.n : Int) < 1))) rfl (fun hg => r_indexAddr (cv_get (hAp.get rfl) hg) (cv_get (hAp.get rfl) hg) tU44 ti_9 (cy (of_decide_eq_false (g_f hg))).1 (cy (of_decide_eq_false (g_f hg))).2) fun _ _ e => ⟨_,e,Chg.refl _ _,fun _ => Eq.refl _⟩
    ·intro a w hT
     have hAp := hT.ag r [] trivial (by kernel_rfl)
     have hAp := hAp.add (t := 82) (v := .bool (decide ((b.n : Int) < 1))) (hT.vals 3 rfl 82 rfl)
     have hAp := hAp.add (t := 89) (v := cV (true && ((decide ((b.n : Int) < 1)) == false)) (.pointer (some (au.add (l.toNat * 1))))) (hT.vals 10 rfl 89 rfl)
     exact opk_gval hAp rfl rfl (g := true) (e := (decide ((b.n : Int) < 1))) rfl (fun hg => r_load1 tU9 rfl (cv_get (hAp.get rfl) hg) (Ext.cell hT.chg (f8 (of_decide_eq_false (g_f hg))))) fun _ _ e => ⟨_,e,Chg.refl _ _,fun _ => Eq.refl _⟩
    ·intro a w hT
     have hAp := hT.ag r [] trivial (by kernel_rfl)
     have hAp := hAp.add (t := 82) (v := .bool (decide ((b.n : Int) < 1))) (hT.vals 3 rfl 82 rfl)
     have hAp := hAp.add (t := 86) (v := cV (true && ((decide ((b.n : Int) < 1)) == false)) (.string (Bs y))) (hT.vals 7 rfl 86 rfl)
     have hAp := hAp.add (t := 90) (v := cV (true && ((decide ((b.n : Int) < 1)) == false)) (.string (Bs z))) (hT.vals 11 rfl 90 rfl)
     exact opk_gval hAp rfl rfl (g := true) (e := (decide ((b.n : Int) < 1))) rfl (fun hg => r_sneq (cv_get (hAp.get rfl) hg) (cv_get (hAp.get rfl) hg)) fun _ _ e => ⟨_,e,Chg.refl _ _,fun _ => Eq.refl _⟩
    ·intro a w hT
     have hAp := hT.ag r [] trivial (by kernel_rfl)
     have hAp := hAp.add (t := 82) (v := .bool (decide ((b.n : Int) < 1))) (hT.vals 3 rfl 82 rfl)
     have hAp := hAp.add (t := 91) (v := cV (true && ((decide ((b.n : Int) < 1)) == false)) (.bool (decide (y ≠ z)))) (hT.vals 12 rfl 91 rfl)
     exact ovr hAp rfl (r_pick_or (g := (true && ((decide ((b.n : Int) < 1)) == false))) (hAp.get rfl) (hAp.get rfl) (fun he => g_mkf rfl he)) fun _ => Eq.refl _
    ·intro f9 x ga gc gd
     have gf := gc [(6,Sl.v c),(9,Sl.v b),(11,.int .i64 l)] ⟨rfl,rfl,rfl,trivial⟩ (by kernel_rfl)
     have gg : f9.tmps.getD 92 undef = .bool ((decide ((b.n : Int) < 1)) || (decide (y ≠ z))) := gd 13 rfl 92 rfl
     have gh := gf.add gg
     have cA : Chg [] aa x := ga
     refine PR_end (by kernel_rfl) ?_
     have aI := gh.kp [(6,Sl.v c),(9,Sl.v b),(11,.int .i64 l),(92,.bool ((decide ((b.n : Int) < 1)) || (decide (y ≠ z))))] rfl
     refine then_normal ?_
     refine wp_cond_split (aI.get rfl) (fun hc => ?_) (fun hc => ?_)
     ·have gj := cz.1 ((b_or_t hc).imp (fun h => (of_decide_eq_true h)) (fun h => (of_decide_eq_true h)))
      clear hc
      refine wp_seq (wp_region_lit ?_)
      refine sqv aI rfl (r_assign rfl) fun _ gm => sq_end ?_
      have cB := gm.kp [(2,.bool false)] rfl
      refine then_normal ?_
      refine wp_ret ?_
      refine then_ret ?_
      refine block_ret ?_
      refine then_ret ?_
      refine then_ret ?_
      refine block_ret ?_
      refine then_ret ?_
      have gq := gj x    cA
      exact res_all (vs := [.bool false]) rfl cB ⟨res_of_tmp cB rfl,trivial⟩ gq
     ·have gu := cz.2 ⟨(of_decide_eq_false (b_or_f hc).1),(of_decide_eq_false (b_or_f hc).2)⟩
      clear hc
      refine wp_skip ?_
      refine then_normal (wp_region_lit ?_)
      refine sqv aI rfl (r_move (aI.get rfl)) fun _ cD => ?_
      obtain ⟨gG,aL,gJ,gU⟩ := gu
      refine sqv cD rfl (r_indexAddr (cD.get rfl) rfl tU26 ti_28 gG gJ) fun _ cF => sqv cF rfl (r_fieldAddr (cF.get rfl) Tryz.underlying28 rfl ti_26 (by decide)) fun _ cH => ?_
      have gY := gU x    cA
      obtain ⟨af,g0,g4⟩ := gY
      refine sqv cH rfl (r_load1 tU26 rfl (cH.get rfl) g0) fun _ cI => sqv cI rfl (r_assign (cI.get rfl)) fun _ g5 => sq_end ?_
      have cJ := g5.kp [(6,Sl.v c),(9,Sl.v af),(11,.int .i64 l)] rfl
      refine block_normal ?_
      refine then_normal (wp_region_lit ?_)
      refine sqv cJ rfl (r_move (cJ.get rfl)) fun _ cK => ?_
      obtain ⟨g6,cL⟩ := g4
      refine sqv cK rfl (r_addI (cK.get rfl) rfl g6) fun _ cM => sqv cM rfl (r_assign (cM.get rfl)) fun _ g7 => sq_end ?_
      have g8 := g7.kp [(6,Sl.v c),(9,Sl.v af),(11,.int .i64 (l + 1))] rfl
      have g9 := g8.kp [(6,Sl.v c),(9,Sl.v af),(11,.int .i64 (l + 1))] rfl
      exact then_normal ⟨(af,l + 1,x),⟨g9,rfl,cL.1⟩,cL.2⟩
   ·have cN := ct.2 (of_decide_eq_false hc)
    clear hc
    refine wp_exit ?_
    refine then_exit ?_
    refine then_exit ?_
    refine block_hit ?_
    have cO := r.kp [(6,Sl.v c),(9,Sl.v b)] rfl
    refine then_normal (wp_seq (wp_seq (wp_region_lit ?_)))
    refine sqv cO rfl (r_move (cO.get rfl)) fun _ cP => sqv cP rfl (r_len (cP.get rfl) tU44) fun _ cQ => sqv cQ rfl (r_eql (cQ.get rfl) rfl) fun _ ha => sq_end ?_
    have aA := ha.kp [(9,Sl.v b),(99,.bool (decide ((c.n : Int) = 0)))] rfl
    refine then_normal ?_
    refine wp_cond_split (aA.get rfl) (fun hc => ?_) (fun hc => ?_)
    ·have hb := cN.1 (of_decide_eq_true hc)
     clear hc
     refine wp_seq (wp_region_lit ?_)
     refine sqv aA rfl (r_move (aA.get rfl)) fun _ cS => sqv cS rfl (r_len (cS.get rfl) tU26) fun _ cU => sqv cU rfl (r_eql (cU.get rfl) rfl) fun _ cY => sqv cY rfl (r_move (cY.get rfl)) fun _ cZ => ?_
     refine sq (opk_gval cZ rfl rfl (g := true) (e := (decide ((b.n : Int) = 1))) rfl (fun hg => r_move (cZ.get rfl)) fun ia c0 _ => ?_)
     obtain ⟨aM,c1,hd⟩ := hb
     refine sq (opk_gval c0 rfl rfl (g := true) (e := (decide ((b.n : Int) = 1))) rfl (fun hg => r_indexAddr (cv_get (c0.get rfl) hg) rfl tU26 ti_28 (c1 (of_decide_eq_true (g_t hg))).1 (c1 (of_decide_eq_true (g_t hg))).2) fun ib c2 _ => ?_)
     refine sq (opk_gval c2 rfl rfl (g := true) (e := (decide ((b.n : Int) = 1))) rfl (fun hg => r_fieldAddr (cv_get (c2.get rfl) hg) Tryz.underlying28 rfl ti_9 (by decide)) fun ig c3 _ => ?_)
     obtain ⟨ah,hf,hh⟩ := hd
     refine sq (opk_gval c3 rfl rfl (g := true) (e := (decide ((b.n : Int) = 1))) rfl (fun hg => r_load1 tU9 rfl (cv_get (c3.get rfl) hg) (hf (of_decide_eq_true (g_t hg)))) fun ih c4 _ => ?_)
     refine sq (opk_gval c4 rfl rfl (g := true) (e := (decide ((b.n : Int) = 1))) rfl (fun hg => r_seql (cv_get (c4.get rfl) hg) rfl) fun ii a5 _ => ?_)
     refine sqv a5 rfl (r_pick_and (g := (true && ((decide ((b.n : Int) = 1)) == true))) (a5.get rfl) (a5.get rfl) (fun he => g_mkt rfl he)) fun _ c5 => sqv c5 rfl (r_move (c5.get rfl)) fun _ hi => ?_
     obtain ⟨av,hj,hk⟩ := hh
     refine sq (opk_gcall hi rfl rfl (g := true) (e := ((decide ((b.n : Int) = 1)) && (decide (ah = ([120,121] : Str))))) rfl (fun hg => r_call (args := #[]) Tryz.func10 (by decide) rfl (map_arr ml_nil) rfl) (fun hg => hj ⟨(of_decide_eq_true (b_and_t (g_t hg)).1),(of_decide_eq_true (b_and_t (g_t hg)).2)⟩) fun ij ax a6 _ c6 => ?_)
     have ik : Chg [] u ax := c6
     have hl := hk ax c6
     refine sqv a6 rfl (r_pick_and (g := (true && (((decide ((b.n : Int) = 1)) && (decide (ah = ([120,121] : Str)))) == true))) (a6.get rfl) (a6.get rfl) (fun he => g_mkt rfl he)) fun _ c7 => sqv c7 rfl (r_assign (c7.get rfl)) fun _ hm => sq_end ?_
     have c8 := hm.kp [(2,.bool (((decide ((b.n : Int) = 1)) && (decide (ah = ([120,121] : Str)))) && av))] rfl
     refine then_normal ?_
     refine wp_ret ?_
     refine then_ret ?_
     exact res_all (vs := [.bool (((decide ((b.n : Int) = 1)) && (decide (ah = ([120,121] : Str)))) && av)]) rfl c8 ⟨res_of_tmp c8 rfl,trivial⟩ hl
    ·have hn := cN.2 (of_decide_eq_false hc)
     clear hc
     refine wp_skip ?_
     refine then_normal (wp_seq (wp_region_lit ?_))
     refine sqv aA rfl (r_move (aA.get rfl)) fun _ c9 => sqv c9 rfl (r_len (c9.get rfl) tU26) fun _ da => sqv da rfl (r_eql (da.get rfl) rfl) fun _ db => sqv db rfl (r_move (db.get rfl)) fun _ dc => ?_
     refine sq (opk_gval dc rfl rfl (g := true) (e := (decide ((b.n : Int) = 1))) rfl (fun hg => r_move (dc.get rfl)) fun il dd _ => ?_)
     obtain ⟨aN,df,ho⟩ := hn
     refine sq (opk_gval dd rfl rfl (g := true) (e := (decide ((b.n : Int) = 1))) rfl (fun hg => r_indexAddr (cv_get (dd.get rfl) hg) rfl tU26 ti_28 (df (of_decide_eq_true (g_t hg))).1 (df (of_decide_eq_true (g_t hg))).2) fun im dg _ => ?_)
     refine sq (opk_gval dg rfl rfl (g := true) (e := (decide ((b.n : Int) = 1))) rfl (fun hg => r_fieldAddr (cv_get (dg.get rfl) hg) Tryz.underlying28 rfl ti_9 (by decide)) fun io dh _ => ?_)
     obtain ⟨ai,hp,hq⟩ := ho
     refine sq (opk_gval dh rfl rfl (g := true) (e := (decide ((b.n : Int) = 1))) rfl (fun hg => r_load1 tU9 rfl (cv_get (dh.get rfl) hg) (hp (of_decide_eq_true (g_t hg)))) fun ip di _ => ?_)
     refine sq (opk_gval di rfl rfl (g := true) (e := (decide ((b.n : Int) = 1))) rfl (fun hg => r_seql (cv_get (di.get rfl) hg) rfl) fun iq hA518 _ => ?_)
     refine sqv hA518 rfl (r_pick_and (g := (true && ((decide ((b.n : Int) = 1)) == true))) (hA518.get rfl) (hA518.get rfl) (fun he => g_mkt rfl he)) fun _ dj => sqv dj rfl (r_move (dj.get rfl)) fun _ hs => ?_
     obtain ⟨ay,ht,hu⟩ := hq
     refine sq (opk_gcall hs rfl rfl (g := true) (e := ((decide ((b.n : Int) = 1)) && (decide (ai = ([120] : Str))))) rfl (fun hg => r_call (args := #[]) Tryz.func10 (by decide) rfl (map_arr ml_nil) rfl) (fun hg => ht ⟨(of_decide_eq_true (b_and_t (g_t hg)).1),(of_decide_eq_true (b_and_t (g_t hg)).2)⟩) fun ir az a8 _ dk => ?_)
     have it : Chg [] u az := dk
     have hv := hu az dk
     refine sqv a8 rfl (r_pick_and (g := (true && (((decide ((b.n : Int) = 1)) && (decide (ai = ([120] : Str)))) == true))) (a8.get rfl) (a8.get rfl) (fun he => g_mkt rfl he)) fun _ dl => sqv dl rfl (r_assign (dl.get rfl)) fun _ hx => sq_end ?_
     have dm := hx.kp [(2,.bool (((decide ((b.n : Int) = 1)) && (decide (ai = ([120] : Str)))) && ay))] rfl
     refine then_normal ?_
     refine wp_ret ?_
     exact res_all (vs := [.bool (((decide ((b.n : Int) = 1)) && (decide (ai = ([120] : Str)))) && ay)]) rfl dm ⟨res_of_tmp dm rfl,trivial⟩ hv
end Go.Proofs.YtenokfdkckhhiaaGreatDoor
