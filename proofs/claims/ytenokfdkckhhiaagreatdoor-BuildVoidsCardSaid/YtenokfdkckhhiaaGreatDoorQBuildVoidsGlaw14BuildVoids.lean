/-
  PRINTED BY PROGRAM: for each function its condition (vc), and that this suffices (ok).
-/
import Derived.Test.YtenokfdkckhhiaaGreatDoorQBuildVoidsGT
namespace Go.Proofs.YtenokfdkckhhiaaGreatDoor
open Go.RowKit
set_option linter.unusedVariables false
set_option maxHeartbeats 1000000
set_option maxRecDepth 10000
def law14_BuildVoids.vc (f : Sl) (R : Value → World → Prop) (w : World) : Prop :=
∀ (y : World) (i : Nat), New w i y → Chg [] w y →
∃ (ah : Str → Int → Int → World → Prop) (al : Str → Int → Int → World → Nat),
ah ([60, 98, 111, 100, 121, 62] : Str) 0 0 y ∧
(∀ (o : Str) (j : Int) (k : Int) (z : World), ah o j k z →
(((k < (f.n : Int)) ∧ (k < 30)) →
(List.length o + List.length ([60] : Str) ≤ 9223372036854775807) ∧
((0 : Int) ≤ k ∧ k < (f.n : Int)) ∧ ∃ au : Addr, f.a = some au ∧
∃ (am : Int), (z.cell? (au.add (k.toNat * 1)) = some (.int .i64 am)) ∧
CallK Tryz.prog 15 #[.int .i64 am, .int .i64 9] z [i] (fun v an => ∃ (p : Int), v = .int .i64 p ∧
((0 : Int) ≤ p ∧ p < 9) ∧
(List.length (o ++ ([60] : Str)) + List.length (([([97, 114, 101, 97] : Str), ([98, 114] : Str), ([101, 109, 98, 101, 100] : Str), ([105, 109, 103] : Str), ([105, 110, 112, 117, 116] : Str), ([119, 98, 114] : Str), ([112, 97, 114, 97, 109] : Str), ([115, 111, 117, 114, 99, 101] : Str), ([116, 114, 97, 99, 107] : Str)] : List Str).getD p.toNat []) ≤ 9223372036854775807) ∧
(List.length ((o ++ ([60] : Str)) ++ (([([97, 114, 101, 97] : Str), ([98, 114] : Str), ([101, 109, 98, 101, 100] : Str), ([105, 109, 103] : Str), ([105, 110, 112, 117, 116] : Str), ([119, 98, 114] : Str), ([112, 97, 114, 97, 109] : Str), ([115, 111, 117, 114, 99, 101] : Str), ([116, 114, 97, 99, 107] : Str)] : List Str).getD p.toNat [])) + List.length ([62] : Str) ≤ 9223372036854775807) ∧
(I64 (j + 1)) ∧
(I64 (k + 1)) ∧
ah (((o ++ ([60] : Str)) ++ (([([97, 114, 101, 97] : Str), ([98, 114] : Str), ([101, 109, 98, 101, 100] : Str), ([105, 109, 103] : Str), ([105, 110, 112, 117, 116] : Str), ([119, 98, 114] : Str), ([112, 97, 114, 97, 109] : Str), ([115, 111, 117, 114, 99, 101] : Str), ([116, 114, 97, 99, 107] : Str)] : List Str).getD p.toNat [])) ++ ([62] : Str)) (j + 1) (k + 1) an ∧ al (((o ++ ([60] : Str)) ++ (([([97, 114, 101, 97] : Str), ([98, 114] : Str), ([101, 109, 98, 101, 100] : Str), ([105, 109, 103] : Str), ([105, 110, 112, 117, 116] : Str), ([119, 98, 114] : Str), ([112, 97, 114, 97, 109] : Str), ([115, 111, 117, 114, 99, 101] : Str), ([116, 114, 97, 99, 107] : Str)] : List Str).getD p.toNat [])) ++ ([62] : Str)) (j + 1) (k + 1) an < al o j k z)) ∧
(((¬ (k < (f.n : Int))) ∨ (¬ (k < 30))) →
CallK Tryz.prog 18 #[.string (Bs o)] z [i] (fun v ao => ∃ (l : Sl) (r : Bool), v = .tuple #[Sl.v l, .bool r] ∧
(((r = false) ∨ ((l.n : Int) ≠ j)) →
R (.bool false) ao) ∧
(((r = true) ∧ (¬ ((l.n : Int) ≠ j))) →
∃ (ai : Int → World → Prop) (ap : Int → World → Nat),
ai 0 ao ∧
(∀ (c : Int) (aa : World), ai c aa →
((c < j) →
∀ (u : World), Chg [] aa u →
∃ ab : Addr, (((0 : Int) ≤ c ∧ c < (l.n : Int)) ∧ l.a = some ab) ∧
∃ (d : Str), (u.cell? ((ab.add (c.toNat * 5)).add 1) = some (.string (Bs d))) ∧
∃ aj : Addr, (((0 : Int) ≤ c ∧ c < (f.n : Int)) ∧ f.a = some aj) ∧
∃ (af : Int), (u.cell? (aj.add (c.toNat * 1)) = some (.int .i64 af)) ∧
∃ (b : Int), (∀ w' : World, Ext u w' → Calls Tryz.prog 15 #[.int .i64 af, .int .i64 9] w' (Ret fun v w'' => Ext w' w'' ∧ v = .int .i64 b)) ∧
((0 : Int) ≤ b ∧ b < 9) ∧
∃ ad : Addr, (((¬ (d ≠ (([([97, 114, 101, 97] : Str), ([98, 114] : Str), ([101, 109, 98, 101, 100] : Str), ([105, 109, 103] : Str), ([105, 110, 112, 117, 116] : Str), ([119, 98, 114] : Str), ([112, 97, 114, 97, 109] : Str), ([115, 111, 117, 114, 99, 101] : Str), ([116, 114, 97, 99, 107] : Str)] : List Str).getD b.toNat [])))) → ((0 : Int) ≤ c ∧ c < (l.n : Int)) ∧ l.a = some ad) ∧
∃ (q : Sl), (((¬ (d ≠ (([([97, 114, 101, 97] : Str), ([98, 114] : Str), ([101, 109, 98, 101, 100] : Str), ([105, 109, 103] : Str), ([105, 110, 112, 117, 116] : Str), ([119, 98, 114] : Str), ([112, 97, 114, 97, 109] : Str), ([115, 111, 117, 114, 99, 101] : Str), ([116, 114, 97, 99, 107] : Str)] : List Str).getD b.toNat [])))) → u.cell? ((ad.add (c.toNat * 5)).add 4) = some (Sl.v q)) ∧
(((d ≠ (([([97, 114, 101, 97] : Str), ([98, 114] : Str), ([101, 109, 98, 101, 100] : Str), ([105, 109, 103] : Str), ([105, 110, 112, 117, 116] : Str), ([119, 98, 114] : Str), ([112, 97, 114, 97, 109] : Str), ([115, 111, 117, 114, 99, 101] : Str), ([116, 114, 97, 99, 107] : Str)] : List Str).getD b.toNat [])) ∨ ((q.n : Int) ≠ 0)) →
∀ (x : World), Chg [] u x →
R (.bool false) x) ∧
(((¬ (d ≠ (([([97, 114, 101, 97] : Str), ([98, 114] : Str), ([101, 109, 98, 101, 100] : Str), ([105, 109, 103] : Str), ([105, 110, 112, 117, 116] : Str), ([119, 98, 114] : Str), ([112, 97, 114, 97, 109] : Str), ([115, 111, 117, 114, 99, 101] : Str), ([116, 114, 97, 99, 107] : Str)] : List Str).getD b.toNat []))) ∧ (¬ ((q.n : Int) ≠ 0))) →
(I64 (c + 1)) ∧
∀ (x : World), Chg [] u x →
ai (c + 1) x ∧ ap (c + 1) x < ap c aa)) ∧
((¬ (c < j)) →
CallK Tryz.prog 10 #[] aa [] (fun v aI => ∃ (ak : Bool), v = .bool ak ∧
R (.bool ak) aI)))))))
theorem law14_BuildVoids.ok (f : Sl) {R : Value → World → Prop} {w : World} (aJ : law14_BuildVoids.vc f R w) : Calls Tryz.prog 7 #[Sl.v f] w (Ret R) := by
 refine enter [Sl.v f] Tryz.func7 rfl Tryz.ntmps7 rfl ?_
 intro a0 bX
 unfold law14_BuildVoids.vc at aJ
 refine wp_seq (wp_region_lit ?_)
 refine sqv bX rfl (r_assign rfl) fun _ bY => sq_end ?_
 have bZ := bY.kp [(0, Sl.v f)] rfl
 refine then_normal (wp_seq (wp_region_lit ?_))
 refine sqv bZ rfl (r_buildA (vs := #[(0, .string (Bs ([97, 114, 101, 97] : Str))), (1, .string (Bs ([98, 114] : Str))), (2, .string (Bs ([101, 109, 98, 101, 100] : Str))), (3, .string (Bs ([105, 109, 103] : Str))), (4, .string (Bs ([105, 110, 112, 117, 116] : Str))), (5, .string (Bs ([119, 98, 114] : Str))), (6, .string (Bs ([112, 97, 114, 97, 109] : Str))), (7, .string (Bs ([115, 111, 117, 114, 99, 101] : Str))), (8, .string (Bs ([116, 114, 97, 99, 107] : Str)))]) (cells := #[.string (Bs ([97, 114, 101, 97] : Str)), .string (Bs ([98, 114] : Str)), .string (Bs ([101, 109, 98, 101, 100] : Str)), .string (Bs ([105, 109, 103] : Str)), .string (Bs ([105, 110, 112, 117, 116] : Str)), .string (Bs ([119, 98, 114] : Str)), .string (Bs ([112, 97, 114, 97, 109] : Str)), .string (Bs ([115, 111, 117, 114, 99, 101] : Str)), .string (Bs ([116, 114, 97, 99, 107] : Str))]) (map_arr2 (ml2_cons rfl (ml2_cons rfl (ml2_cons rfl (ml2_cons rfl (ml2_cons rfl (ml2_cons rfl (ml2_cons rfl (ml2_cons rfl (ml2_cons rfl (ml2_nil))))))))))) ti_48 Tryz.underlying48 ti_9 (by kernel_rfl)) fun _ b0 => ?_
 refine sq (opk_new (fun B => .pointer (some ⟨B, 0, none⟩)) b0 rfl (r_alloc (cs := [.string (Bs []), .string (Bs []), .string (Bs []), .string (Bs []), .string (Bs []), .string (Bs []), .string (Bs []), .string (Bs []), .string (Bs [])]) ti_48 rfl) fun a7 w6 i b1 b2 aL av _ => ?_)
 have aM : New w i w6 := b2
 have b3 : Chg [] w w6 := b1
 refine sq (opk_store av aL (r_store (vs := [.string (Bs ([97, 114, 101, 97] : Str)), .string (Bs ([98, 114] : Str)), .string (Bs ([101, 109, 98, 101, 100] : Str)), .string (Bs ([105, 109, 103] : Str)), .string (Bs ([105, 110, 112, 117, 116] : Str)), .string (Bs ([119, 98, 114] : Str)), .string (Bs ([112, 97, 114, 97, 109] : Str)), .string (Bs ([115, 111, 117, 114, 99, 101] : Str)), .string (Bs ([116, 114, 97, 99, 107] : Str))]) (av.get rfl) (av.get rfl) rfl ti_48 aL rfl (ones_all _ rfl)) fun dP y aN b4 b5 => ?_)
 have b6 : Box y i 48 [.string (Bs ([97, 114, 101, 97] : Str)), .string (Bs ([98, 114] : Str)), .string (Bs ([101, 109, 98, 101, 100] : Str)), .string (Bs ([105, 109, 103] : Str)), .string (Bs ([105, 110, 112, 117, 116] : Str)), .string (Bs ([119, 98, 114] : Str)), .string (Bs ([112, 97, 114, 97, 109] : Str)), .string (Bs ([115, 111, 117, 114, 99, 101] : Str)), .string (Bs ([116, 114, 97, 99, 107] : Str))] := b4
 have b7 := b3.storeNew aM aN
 have b8 := aM.up aN.size
 refine sq_end ?_
 have b9 := b5.kp [(0, Sl.v f), (3, pB i 0)] rfl
 refine then_normal (wp_seq (wp_region_lit ?_))
 refine sqv b9 rfl (r_assign rfl) fun _ ca => sq_end ?_
 have cb := ca.kp [(0, Sl.v f), (3, pB i 0), (4, .string (Bs ([60, 98, 111, 100, 121, 62] : Str)))] rfl
 refine then_normal (wp_seq (wp_region_lit ?_))
 refine sqv cb rfl (r_assign rfl) fun _ cc => sq_end ?_
 have cd := cc.kp [(0, Sl.v f), (3, pB i 0), (4, .string (Bs ([60, 98, 111, 100, 121, 62] : Str))), (5, .int .i64 0)] rfl
 refine then_normal (wp_seq (wp_seq (wp_region_lit ?_)))
 refine sqv cd rfl (r_assign rfl) fun _ cf => sq_end ?_
 have cg := cf.kp [(0, Sl.v f), (3, pB i 0), (4, .string (Bs ([60, 98, 111, 100, 121, 62] : Str))), (5, .int .i64 0), (6, .int .i64 0)] rfl
 refine then_normal (wp_block ?_)
 have ch := aJ y i b8  b7
 obtain ⟨ah, al, ci, cj⟩ := ch
 refine wp_loop_st (σ := Str × Int × Int × World) (fun s a w => Ag 75 a [(0, Sl.v f), (3, pB i 0), (4, .string (Bs s.1)), (5, .int .i64 s.2.1), (6, .int .i64 s.2.2.1)] ∧ Box w i 48 [.string (Bs ([97, 114, 101, 97] : Str)), .string (Bs ([98, 114] : Str)), .string (Bs ([101, 109, 98, 101, 100] : Str)), .string (Bs ([105, 109, 103] : Str)), .string (Bs ([105, 110, 112, 117, 116] : Str)), .string (Bs ([119, 98, 114] : Str)), .string (Bs ([112, 97, 114, 97, 109] : Str)), .string (Bs ([115, 111, 117, 114, 99, 101] : Str)), .string (Bs ([116, 114, 97, 99, 107] : Str))] ∧ w = s.2.2.2 ∧ ah s.1 s.2.1 s.2.2.1 s.2.2.2) (fun s => al s.1 s.2.1 s.2.2.1 s.2.2.2) (([60, 98, 111, 100, 121, 62] : Str), 0, 0, y) ⟨cg.kp [(0, Sl.v f), (3, pB i 0), (4, .string (Bs ([60, 98, 111, 100, 121, 62] : Str))), (5, .int .i64 0), (6, .int .i64 0)] rfl, b6, rfl, ci⟩ ?_
 rintro ⟨o, j, k, z⟩ dQ w_ ⟨aO, aP, hw_, ck⟩
 have hw_ : z = w_ := hw_.symm
 subst hw_
 have aQ := cj o j k _ ck
 refine wp_seq (wp_seq (wp_region_lit ?_))
 refine sqv aO rfl (r_move (aO.get rfl)) fun _ aR => sqv aR rfl (r_move (aR.get rfl)) fun _ aS => sqv aS rfl (r_len (aS.get rfl) tU42) fun _ ax => sqv ax rfl (r_lss (ax.get rfl) (ax.get rfl)) fun _ aU => sqv aU rfl (r_move (aU.get rfl)) fun _ aV => ?_
 refine sq (opk_gval aV rfl rfl (g := true) (e := (decide (k < (f.n : Int)))) rfl (fun hg => r_move (aV.get rfl)) fun dR aX _ => ?_)
 refine sq (opk_gval aX rfl rfl (g := true) (e := (decide (k < (f.n : Int)))) rfl (fun hg => r_lss (cv_get (aX.get rfl) hg) rfl) fun dS ay _ => ?_)
 refine sqv ay rfl (r_pick_and (g := (true && ((decide (k < (f.n : Int))) == true))) (ay.get rfl) (ay.get rfl) (fun he => g_mkt rfl he)) fun _ cl => sq_end ?_
 have aq := cl.kp [(0, Sl.v f), (3, pB i 0), (4, .string (Bs o)), (5, .int .i64 j), (6, .int .i64 k), (18, .bool ((decide (k < (f.n : Int))) && (decide (k < 30))))] rfl
 refine then_normal ?_
 refine wp_cond_split (aq.get rfl) (fun hc => ?_) (fun hc => ?_)
 ·have cm := aQ.1 ⟨(of_decide_eq_true (b_and_t hc).1), (of_decide_eq_true (b_and_t hc).2)⟩
  clear hc
  refine wp_skip ?_
  refine then_normal (wp_seq (wp_block (wp_seq (wp_region_lit ?_))))
  refine sqv aq rfl (r_move (aq.get rfl)) fun _ aY => ?_
  obtain ⟨cn, co⟩ := cm
  refine sqv aY rfl (r_sadd (aY.get rfl) rfl cn) fun _ aZ => sqv aZ rfl (r_move (aZ.get rfl)) fun _ hA116 => sqv hA116 rfl (r_move (hA116.get rfl)) fun _ az => ?_
  obtain ⟨cp, au, cq, cr⟩ := co
  refine sqv az rfl (r_indexAddr (az.get rfl) (az.get rfl) tU42 ti_3 cp cq) fun _ a1 => ?_
  obtain ⟨am, ct, cu⟩ := cr
  refine sqv a1 rfl (r_load1 tU3 rfl (a1.get rfl) ct) fun _ a2 => ?_
  refine sq (opk_call a2 rfl (r_call (args := #[.int .i64 am, .int .i64 9]) Tryz.func15 (by decide) rfl (map_arr (ml_cons (a2.get rfl) (ml_cons rfl ml_nil))) rfl) cu fun dU dV an aA _ cv dX cx => ?_)
  obtain ⟨p, rfl, cy⟩ := cx
  have a3 := aP.kept cv (.head _)
  obtain ⟨a4, cz⟩ := cy
  refine sqv aA rfl (r_indexAddrA (aA.get rfl) (aA.get rfl) Tryz.underlying48 ti_9 a4) fun _ a5 => sqv a5 rfl (r_load1 tU9 rfl (a5.get rfl) (Box.cellA ([([97, 114, 101, 97] : Str), ([98, 114] : Str), ([101, 109, 98, 101, 100] : Str), ([105, 109, 103] : Str), ([105, 110, 112, 117, 116] : Str), ([119, 98, 114] : Str), ([112, 97, 114, 97, 109] : Str), ([115, 111, 117, 114, 99, 101] : Str), ([116, 114, 97, 99, 107] : Str)] : List Str) (fun s => Value.string (Bs s)) [] a3 rfl rfl a4)) fun _ aB => ?_
  obtain ⟨cA, cB⟩ := cz
  refine sqv aB rfl (r_sadd (aB.get rfl) (aB.get rfl) cA) fun _ a6 => ?_
  obtain ⟨cD, cF⟩ := cB
  refine sqv a6 rfl (r_sadd (a6.get rfl) rfl cD) fun _ hA143 => sqv hA143 rfl (r_assign (hA143.get rfl)) fun _ cH => sq_end ?_
  have a8 := cH.kp [(0, Sl.v f), (3, pB i 0), (4, .string (Bs (((o ++ ([60] : Str)) ++ (([([97, 114, 101, 97] : Str), ([98, 114] : Str), ([101, 109, 98, 101, 100] : Str), ([105, 109, 103] : Str), ([105, 110, 112, 117, 116] : Str), ([119, 98, 114] : Str), ([112, 97, 114, 97, 109] : Str), ([115, 111, 117, 114, 99, 101] : Str), ([116, 114, 97, 99, 107] : Str)] : List Str).getD p.toNat [])) ++ ([62] : Str)))), (5, .int .i64 j), (6, .int .i64 k)] rfl
  refine then_normal (wp_region_lit ?_)
  refine sqv a8 rfl (r_move (a8.get rfl)) fun _ a9 => ?_
  obtain ⟨cI, cJ⟩ := cF
  refine sqv a9 rfl (r_addI (a9.get rfl) rfl cI) fun _ ba => sqv ba rfl (r_assign (ba.get rfl)) fun _ cK => sq_end ?_
  have bb := cK.kp [(0, Sl.v f), (3, pB i 0), (4, .string (Bs (((o ++ ([60] : Str)) ++ (([([97, 114, 101, 97] : Str), ([98, 114] : Str), ([101, 109, 98, 101, 100] : Str), ([105, 109, 103] : Str), ([105, 110, 112, 117, 116] : Str), ([119, 98, 114] : Str), ([112, 97, 114, 97, 109] : Str), ([115, 111, 117, 114, 99, 101] : Str), ([116, 114, 97, 99, 107] : Str)] : List Str).getD p.toNat [])) ++ ([62] : Str)))), (5, .int .i64 (j + 1)), (6, .int .i64 k)] rfl
  refine block_normal ?_
  refine then_normal (wp_region_lit ?_)
  refine sqv bb rfl (r_move (bb.get rfl)) fun _ bd => ?_
  obtain ⟨cL, bf⟩ := cJ
  refine sqv bd rfl (r_addI (bd.get rfl) rfl cL) fun _ bg => sqv bg rfl (r_assign (bg.get rfl)) fun _ cM => sq_end ?_
  have cN := cM.kp [(0, Sl.v f), (3, pB i 0), (4, .string (Bs (((o ++ ([60] : Str)) ++ (([([97, 114, 101, 97] : Str), ([98, 114] : Str), ([101, 109, 98, 101, 100] : Str), ([105, 109, 103] : Str), ([105, 110, 112, 117, 116] : Str), ([119, 98, 114] : Str), ([112, 97, 114, 97, 109] : Str), ([115, 111, 117, 114, 99, 101] : Str), ([116, 114, 97, 99, 107] : Str)] : List Str).getD p.toNat [])) ++ ([62] : Str)))), (5, .int .i64 (j + 1)), (6, .int .i64 (k + 1))] rfl
  have cO := cN.kp [(0, Sl.v f), (3, pB i 0), (4, .string (Bs (((o ++ ([60] : Str)) ++ (([([97, 114, 101, 97] : Str), ([98, 114] : Str), ([101, 109, 98, 101, 100] : Str), ([105, 109, 103] : Str), ([105, 110, 112, 117, 116] : Str), ([119, 98, 114] : Str), ([112, 97, 114, 97, 109] : Str), ([115, 111, 117, 114, 99, 101] : Str), ([116, 114, 97, 99, 107] : Str)] : List Str).getD p.toNat [])) ++ ([62] : Str)))), (5, .int .i64 (j + 1)), (6, .int .i64 (k + 1))] rfl
  exact then_normal ⟨(((o ++ ([60] : Str)) ++ (([([97, 114, 101, 97] : Str), ([98, 114] : Str), ([101, 109, 98, 101, 100] : Str), ([105, 109, 103] : Str), ([105, 110, 112, 117, 116] : Str), ([119, 98, 114] : Str), ([112, 97, 114, 97, 109] : Str), ([115, 111, 117, 114, 99, 101] : Str), ([116, 114, 97, 99, 107] : Str)] : List Str).getD p.toNat [])) ++ ([62] : Str), j + 1, k + 1, an), ⟨cO, a3, rfl, bf.1⟩, bf.2⟩
 ·have cP := aQ.2 ((b_and_f hc).imp (fun h => (of_decide_eq_false h)) (fun h => (of_decide_eq_false h)))
  clear hc
  refine wp_exit ?_
  refine then_exit ?_
  refine then_exit ?_
  refine block_hit ?_
  have bi := aq.kp [(0, Sl.v f), (3, pB i 0), (4, .string (Bs o)), (5, .int .i64 j)] rfl
  refine then_normal (wp_seq (wp_region_lit ?_))
  refine sqv bi rfl (r_move (bi.get rfl)) fun _ bj => ?_
  refine sq (opk_call bj rfl (r_call (args := #[.string (Bs o)]) Tryz.func18 (by decide) rfl (map_arr (ml_cons (bj.get rfl) ml_nil)) rfl) cP fun dY dZ ao bk _ cQ d0 cS => ?_)
  obtain ⟨l, r, rfl, bl⟩ := cS
  have cT := aP.kept cQ (.head _)
  refine sqv bk rfl (r_move (bk.get rfl)) fun _ bo => sqv bo rfl (r_extract (bo.get rfl) rfl) fun _ bp => sqv bp rfl (r_extract (bp.get rfl) rfl) fun _ bq => sqv bq rfl (r_assign (bq.get rfl)) fun _ bs => sqv bs rfl (r_assign (bs.get rfl)) fun _ cU => sq_end ?_
  have bt := cU.kp [(0, Sl.v f), (3, pB i 0), (5, .int .i64 j), (7, Sl.v l), (8, .bool r)] rfl
  refine then_normal (wp_seq (wp_seq (wp_region_lit ?_)))
  refine sqv bt rfl (r_move (bt.get rfl)) fun _ bu => sqv bu rfl (r_not (bu.get rfl)) fun _ bv => sqv bv rfl (r_move (bv.get rfl)) fun _ bx => ?_
  refine sq (opk_gval bx rfl rfl (g := true) (e := (!r)) rfl (fun hg => r_move (bx.get rfl)) fun d1 bz _ => ?_)
  refine sq (opk_gval bz rfl rfl (g := true) (e := (!r)) rfl (fun hg => r_len (cv_get (bz.get rfl) hg) tU26) fun d2 bA _ => ?_)
  refine sq (opk_gval bA rfl rfl (g := true) (e := (!r)) rfl (fun hg => r_move (bA.get rfl)) fun d3 aC _ => ?_)
  refine sq (opk_gval aC rfl rfl (g := true) (e := (!r)) rfl (fun hg => r_neq (cv_get (aC.get rfl) hg) (cv_get (aC.get rfl) hg)) fun d4 aD _ => ?_)
  refine sqv aD rfl (r_pick_or (g := (true && ((!r) == false))) (aD.get rfl) (aD.get rfl) (fun he => g_mkf rfl he)) fun _ cY => sq_end ?_
  have aG := cY.kp [(0, Sl.v f), (3, pB i 0), (5, .int .i64 j), (7, Sl.v l), (46, .bool ((!r) || (decide ((l.n : Int) ≠ j))))] rfl
  refine then_normal ?_
  refine wp_cond_split (aG.get rfl) (fun hc => ?_) (fun hc => ?_)
  ·have cZ := bl.1 ((b_or_t hc).imp (fun h => (b_not_t h)) (fun h => (of_decide_eq_true h)))
   clear hc
   refine wp_seq (wp_region_lit ?_)
   refine sqv aG rfl (r_assign rfl) fun _ c0 => sq_end ?_
   have bB := c0.kp [(2, .bool false)] rfl
   refine then_normal ?_
   refine wp_ret ?_
   refine then_ret ?_
   exact res_all (vs := [.bool false]) rfl bB ⟨res_of_tmp bB rfl, trivial⟩ cZ
  ·have c1 := bl.2 ⟨(b_not_f (b_or_f hc).1), (of_decide_eq_false (b_or_f hc).2)⟩
   clear hc
   refine wp_skip ?_
   refine then_normal (wp_seq (wp_seq (wp_region_lit ?_)))
   refine sqv aG rfl (r_assign rfl) fun _ c2 => sq_end ?_
   have c3 := c2.kp [(0, Sl.v f), (3, pB i 0), (5, .int .i64 j), (7, Sl.v l), (9, .int .i64 0)] rfl
   refine then_normal (wp_block ?_)
   obtain ⟨ai, ap, c4, c5⟩ := c1
   refine wp_loop_st (σ := Int × World) (fun s a w => Ag 75 a [(0, Sl.v f), (3, pB i 0), (5, .int .i64 j), (7, Sl.v l), (9, .int .i64 s.1)] ∧ Box w i 48 [.string (Bs ([97, 114, 101, 97] : Str)), .string (Bs ([98, 114] : Str)), .string (Bs ([101, 109, 98, 101, 100] : Str)), .string (Bs ([105, 109, 103] : Str)), .string (Bs ([105, 110, 112, 117, 116] : Str)), .string (Bs ([119, 98, 114] : Str)), .string (Bs ([112, 97, 114, 97, 109] : Str)), .string (Bs ([115, 111, 117, 114, 99, 101] : Str)), .string (Bs ([116, 114, 97, 99, 107] : Str))] ∧ w = s.2 ∧ ai s.1 s.2) (fun s => ap s.1 s.2) (0, ao) ⟨c3.kp [(0, Sl.v f), (3, pB i 0), (5, .int .i64 j), (7, Sl.v l), (9, .int .i64 0)] rfl, cT, rfl, c4⟩ ?_
   rintro ⟨c, aa⟩ d5 w_ ⟨bC, c6, hw_, c7⟩
   have hw_ : aa = w_ := hw_.symm
   subst hw_
   have bD := c5 c _ c7
   refine wp_seq (wp_seq (wp_region_lit ?_))
   refine sqv bC rfl (r_move (bC.get rfl)) fun _ bF => sqv bF rfl (r_move (bF.get rfl)) fun _ aH => sqv aH rfl (r_lss (aH.get rfl) (aH.get rfl)) fun _ c8 => sq_end ?_
   have m := c8.kp [(0, Sl.v f), (3, pB i 0), (5, .int .i64 j), (7, Sl.v l), (9, .int .i64 c), (49, .bool (decide (c < j)))] rfl
   refine then_normal ?_
   refine wp_cond_split (m.get rfl) (fun hc => ?_) (fun hc => ?_)
   ·have c9 := bD.1 (of_decide_eq_true hc)
    clear hc
    refine wp_skip ?_
    refine then_normal (wp_seq (wp_block (wp_seq ?_)))
    refine draw' (by kernel_rfl) fun u bG => ?_
    have bH := c6.ext bG
    have da : Chg [] aa u := bG
    have db := c9 u    da
    obtain ⟨ab, bI, dc⟩ := db
    obtain ⟨d, dd, df⟩ := dc
    obtain ⟨aj, bJ, dg⟩ := df
    obtain ⟨af, dh, di⟩ := dg
    obtain ⟨b, dj, dk⟩ := di
    obtain ⟨bK, dl⟩ := dk
    obtain ⟨ad, bL, dm⟩ := dl
    obtain ⟨q, dn, bM⟩ := dm
    refine par (D := [[], [], [0, 1], [0, 1, 2], [0, 1, 2, 3], [], [], [5, 6], [5, 6, 7], [5, 6, 7, 8], [5, 6, 7, 8, 9], [5, 6, 7, 8, 9, 10], [0, 1, 2, 3, 4, 5, 6, 7, 8, 9, 10, 11], [0, 1, 2, 3, 4, 5, 6, 7, 8, 9, 10, 11, 12], [0, 1, 2, 3, 4, 5, 6, 7, 8, 9, 10, 11, 12, 13], [0, 1, 2, 3, 4, 5, 6, 7, 8, 9, 10, 11, 12, 13], [0, 1, 2, 3, 4, 5, 6, 7, 8, 9, 10, 11, 12, 13, 14, 15], [0, 1, 2, 3, 4, 5, 6, 7, 8, 9, 10, 11, 12, 13, 14, 15, 16], [0, 1, 2, 3, 4, 5, 6, 7, 8, 9, 10, 11, 12, 13, 14, 15, 16, 17], [0, 1, 2, 3, 4, 5, 6, 7, 8, 9, 10, 11, 12, 13, 14, 15, 16, 17, 18], [0, 1, 2, 3, 4, 5, 6, 7, 8, 9, 10, 11, 12, 13, 14, 15, 16, 17, 18, 19], [0, 1, 2, 3, 4, 5, 6, 7, 8, 9, 10, 11, 12, 13, 14, 15, 16, 17, 18, 19, 20]]) (S := [0, 1, 2, 3, 4, 5, 6, 7, 8, 9, 10, 11, 12, 13, 14, 15, 16, 17, 18, 19, 20, 21]) (F := []) (V := VL [(0, fun v _ => v = Sl.v l), (1, fun v _ => v = .int .i64 c), (2, fun v _ => v = .pointer (some (ab.add (c.toNat * 5)))), (3, fun v _ => v = .pointer (some ((ab.add (c.toNat * 5)).add 1))), (4, fun v _ => v = .string (Bs d)), (5, fun v _ => v = Sl.v f), (6, fun v _ => v = .int .i64 c), (7, fun v _ => v = .pointer (some (aj.add (c.toNat * 1)))), (8, fun v _ => v = .int .i64 af), (9, fun v _ => v = .int .i64 b), (10, fun v _ => v = .pointer (some ((⟨i, 0, none⟩ : Addr).add (b.toNat * 1)))), (11, fun v _ => v = .string (Bs (([([97, 114, 101, 97] : Str), ([98, 114] : Str), ([101, 109, 98, 101, 100] : Str), ([105, 109, 103] : Str), ([105, 110, 112, 117, 116] : Str), ([119, 98, 114] : Str), ([112, 97, 114, 97, 109] : Str), ([115, 111, 117, 114, 99, 101] : Str), ([116, 114, 97, 99, 107] : Str)] : List Str).getD b.toNat []))), (12, fun v _ => v = .bool (decide (d ≠ (([([97, 114, 101, 97] : Str), ([98, 114] : Str), ([101, 109, 98, 101, 100] : Str), ([105, 109, 103] : Str), ([105, 110, 112, 117, 116] : Str), ([119, 98, 114] : Str), ([112, 97, 114, 97, 109] : Str), ([115, 111, 117, 114, 99, 101] : Str), ([116, 114, 97, 99, 107] : Str)] : List Str).getD b.toNat [])))), (13, fun v _ => v = .bool (decide (d ≠ (([([97, 114, 101, 97] : Str), ([98, 114] : Str), ([101, 109, 98, 101, 100] : Str), ([105, 109, 103] : Str), ([105, 110, 112, 117, 116] : Str), ([119, 98, 114] : Str), ([112, 97, 114, 97, 109] : Str), ([115, 111, 117, 114, 99, 101] : Str), ([116, 114, 97, 99, 107] : Str)] : List Str).getD b.toNat [])))), (14, fun v _ => v = cV (true && ((decide (d ≠ (([([97, 114, 101, 97] : Str), ([98, 114] : Str), ([101, 109, 98, 101, 100] : Str), ([105, 109, 103] : Str), ([105, 110, 112, 117, 116] : Str), ([119, 98, 114] : Str), ([112, 97, 114, 97, 109] : Str), ([115, 111, 117, 114, 99, 101] : Str), ([116, 114, 97, 99, 107] : Str)] : List Str).getD b.toNat []))) == false)) (Sl.v l)), (15, fun v _ => v = cV (true && ((decide (d ≠ (([([97, 114, 101, 97] : Str), ([98, 114] : Str), ([101, 109, 98, 101, 100] : Str), ([105, 109, 103] : Str), ([105, 110, 112, 117, 116] : Str), ([119, 98, 114] : Str), ([112, 97, 114, 97, 109] : Str), ([115, 111, 117, 114, 99, 101] : Str), ([116, 114, 97, 99, 107] : Str)] : List Str).getD b.toNat []))) == false)) (.int .i64 c)), (16, fun v _ => v = cV (true && ((decide (d ≠ (([([97, 114, 101, 97] : Str), ([98, 114] : Str), ([101, 109, 98, 101, 100] : Str), ([105, 109, 103] : Str), ([105, 110, 112, 117, 116] : Str), ([119, 98, 114] : Str), ([112, 97, 114, 97, 109] : Str), ([115, 111, 117, 114, 99, 101] : Str), ([116, 114, 97, 99, 107] : Str)] : List Str).getD b.toNat []))) == false)) (.pointer (some (ad.add (c.toNat * 5))))), (17, fun v _ => v = cV (true && ((decide (d ≠ (([([97, 114, 101, 97] : Str), ([98, 114] : Str), ([101, 109, 98, 101, 100] : Str), ([105, 109, 103] : Str), ([105, 110, 112, 117, 116] : Str), ([119, 98, 114] : Str), ([112, 97, 114, 97, 109] : Str), ([115, 111, 117, 114, 99, 101] : Str), ([116, 114, 97, 99, 107] : Str)] : List Str).getD b.toNat []))) == false)) (.pointer (some ((ad.add (c.toNat * 5)).add 4)))), (18, fun v _ => v = cV (true && ((decide (d ≠ (([([97, 114, 101, 97] : Str), ([98, 114] : Str), ([101, 109, 98, 101, 100] : Str), ([105, 109, 103] : Str), ([105, 110, 112, 117, 116] : Str), ([119, 98, 114] : Str), ([112, 97, 114, 97, 109] : Str), ([115, 111, 117, 114, 99, 101] : Str), ([116, 114, 97, 99, 107] : Str)] : List Str).getD b.toNat []))) == false)) (Sl.v q)), (19, fun v _ => v = cV (true && ((decide (d ≠ (([([97, 114, 101, 97] : Str), ([98, 114] : Str), ([101, 109, 98, 101, 100] : Str), ([105, 109, 103] : Str), ([105, 110, 112, 117, 116] : Str), ([119, 98, 114] : Str), ([112, 97, 114, 97, 109] : Str), ([115, 111, 117, 114, 99, 101] : Str), ([116, 114, 97, 99, 107] : Str)] : List Str).getD b.toNat []))) == false)) (.int .i64 (q.n : Int))), (20, fun v _ => v = cV (true && ((decide (d ≠ (([([97, 114, 101, 97] : Str), ([98, 114] : Str), ([101, 109, 98, 101, 100] : Str), ([105, 109, 103] : Str), ([105, 110, 112, 117, 116] : Str), ([119, 98, 114] : Str), ([112, 97, 114, 97, 109] : Str), ([115, 111, 117, 114, 99, 101] : Str), ([116, 114, 97, 99, 107] : Str)] : List Str).getD b.toNat []))) == false)) (.bool (decide ((q.n : Int) ≠ 0)))), (21, fun v _ => v = .bool ((decide (d ≠ (([([97, 114, 101, 97] : Str), ([98, 114] : Str), ([101, 109, 98, 101, 100] : Str), ([105, 109, 103] : Str), ([105, 110, 112, 117, 116] : Str), ([119, 98, 114] : Str), ([112, 97, 114, 97, 109] : Str), ([115, 111, 117, 114, 99, 101] : Str), ([116, 114, 97, 99, 107] : Str)] : List Str).getD b.toNat []))) || (decide ((q.n : Int) ≠ 0))))]) m (by kernel_rfl) ⟨fun _ _ _ _ h => h, fun _ _ _ _ h => h, fun _ _ _ _ h => h, fun _ _ _ _ h => h, fun _ _ _ _ h => h, fun _ _ _ _ h => h, fun _ _ _ _ h => h, fun _ _ _ _ h => h, fun _ _ _ _ h => h, fun _ _ _ _ h => h, fun _ _ _ _ h => h, fun _ _ _ _ h => h, fun _ _ _ _ h => h, fun _ _ _ _ h => h, fun _ _ _ _ h => h, fun _ _ _ _ h => h, fun _ _ _ _ h => h, fun _ _ _ _ h => h, fun _ _ _ _ h => h, fun _ _ _ _ h => h, fun _ _ _ _ h => h, fun _ _ _ _ h => h, trivial⟩ ⟨?_, ?_, ?_, ?_, ?_, ?_, ?_, ?_, ?_, ?_, ?_, ?_, ?_, ?_, ?_, ?_, ?_, ?_, ?_, ?_, ?_, ?_, trivial⟩ ?_
    ·intro a w hT
     have hAp := hT.ag m [(7, Sl.v l)] ⟨rfl, trivial⟩ (by kernel_rfl)
     exact ovr hAp rfl (r_move (hAp.get rfl)) fun _ => Eq.refl _
    ·intro a w hT
     have hAp := hT.ag m [(9, .int .i64 c)] ⟨rfl, trivial⟩ (by kernel_rfl)
     exact ovr hAp rfl (r_move (hAp.get rfl)) fun _ => Eq.refl _
    ·intro a w hT
     have hAp := hT.ag m [] trivial (by kernel_rfl)
     have hAp := hAp.add (t := 52) (v := Sl.v l) (hT.vals 0 rfl 52 rfl)
     have hAp := hAp.add (t := 53) (v := .int .i64 c) (hT.vals 1 rfl 53 rfl)
     exact ovr hAp rfl (r_indexAddr (hAp.get rfl) (hAp.get rfl) tU26 ti_28 bI.1 bI.2) fun _ => Eq.refl _
    ·intro a w hT
     have hAp := hT.ag m [] trivial (by kernel_rfl)
     have hAp := hAp.add (t := 54) (v := .pointer (some (ab.add (c.toNat * 5)))) (hT.vals 2 rfl 54 rfl)
     exact ovr hAp rfl (r_fieldAddr (hAp.get rfl) Tryz.underlying28 rfl ti_9 (by decide)) fun _ => Eq.refl _
    ·intro a w hT
     have hAp := hT.ag m [] trivial (by kernel_rfl)
     have hAp := hAp.add (t := 55) (v := .pointer (some ((ab.add (c.toNat * 5)).add 1))) (hT.vals 3 rfl 55 rfl)
     exact ovr hAp rfl (r_load1 tU9 rfl (hAp.get rfl) (Ext.cell hT.chg dd)) fun _ => Eq.refl _
    ·intro a w hT
     have hAp := hT.ag m [(0, Sl.v f)] ⟨rfl, trivial⟩ (by kernel_rfl)
     exact ovr hAp rfl (r_move (hAp.get rfl)) fun _ => Eq.refl _
    ·intro a w hT
     have hAp := hT.ag m [(9, .int .i64 c)] ⟨rfl, trivial⟩ (by kernel_rfl)
     exact ovr hAp rfl (r_move (hAp.get rfl)) fun _ => Eq.refl _
    ·intro a w hT
     have hAp := hT.ag m [] trivial (by kernel_rfl)
     have hAp := hAp.add (t := 57) (v := Sl.v f) (hT.vals 5 rfl 57 rfl)
     have hAp := hAp.add (t := 58) (v := .int .i64 c) (hT.vals 6 rfl 58 rfl)
     exact ovr hAp rfl (r_indexAddr (hAp.get rfl) (hAp.get rfl) tU42 ti_3 bJ.1 bJ.2) fun _ => Eq.refl _
    ·intro a w hT
     have hAp := hT.ag m [] trivial (by kernel_rfl)
     have hAp := hAp.add (t := 59) (v := .pointer (some (aj.add (c.toNat * 1)))) (hT.vals 7 rfl 59 rfl)
     exact ovr hAp rfl (r_load1 tU3 rfl (hAp.get rfl) (Ext.cell hT.chg dh)) fun _ => Eq.refl _
    ·intro a w hT
     have hAp := hT.ag m [] trivial (by kernel_rfl)
     have hAp := hAp.add (t := 60) (v := .int .i64 af) (hT.vals 8 rfl 60 rfl)
     exact opk_callX hAp rfl (r_call (args := #[.int .i64 af, .int .i64 9]) Tryz.func15 (by decide) rfl (map_arr (ml_cons (hAp.get rfl) (ml_cons rfl ml_nil))) rfl) (dj w hT.chg) fun _ _ _ _ e hR => ⟨_, e, hR.1, fun _ => hR.2⟩
    ·intro a w hT
     have hAp := hT.ag m [(3, pB i 0)] ⟨rfl, trivial⟩ (by kernel_rfl)
     have hAp := hAp.add (t := 61) (v := .int .i64 b) (hT.vals 9 rfl 61 rfl)
     exact ovr hAp rfl (r_indexAddrA (hAp.get rfl) (hAp.get rfl) Tryz.underlying48 ti_9 bK) fun _ => Eq.refl _
    ·intro a w hT
     have hAp := hT.ag m [] trivial (by kernel_rfl)
     have hAp := hAp.add (t := 62) (v := .pointer (some ((⟨i, 0, none⟩ : Addr).add (b.toNat * 1)))) (hT.vals 10 rfl 62 rfl)
     exact ovr hAp rfl (r_load1 tU9 rfl (hAp.get rfl) (Box.cellA ([([97, 114, 101, 97] : Str), ([98, 114] : Str), ([101, 109, 98, 101, 100] : Str), ([105, 109, 103] : Str), ([105, 110, 112, 117, 116] : Str), ([119, 98, 114] : Str), ([112, 97, 114, 97, 109] : Str), ([115, 111, 117, 114, 99, 101] : Str), ([116, 114, 97, 99, 107] : Str)] : List Str) (fun s => Value.string (Bs s)) [] (bH.ext hT.chg) rfl rfl bK)) fun _ => Eq.refl _
    ·intro a w hT
     have hAp := hT.ag m [] trivial (by kernel_rfl)
     have hAp := hAp.add (t := 56) (v := .string (Bs d)) (hT.vals 4 rfl 56 rfl)
     have hAp := hAp.add (t := 63) (v := .string (Bs (([([97, 114, 101, 97] : Str), ([98, 114] : Str), ([101, 109, 98, 101, 100] : Str), ([105, 109, 103] : Str), ([105, 110, 112, 117, 116] : Str), ([119, 98, 114] : Str), ([112, 97, 114, 97, 109] : Str), ([115, 111, 117, 114, 99, 101] : Str), ([116, 114, 97, 99, 107] : Str)] : List Str).getD b.toNat []))) (hT.vals 11 rfl 63 rfl)
     exact ovr hAp rfl (r_sneq (hAp.get rfl) (hAp.get rfl)) fun _ => Eq.refl _
    ·intro a w hT
     have hAp := hT.ag m [] trivial (by kernel_rfl)
     have hAp := hAp.add (t := 64) (v := .bool (decide (d ≠ (([([97, 114, 101, 97] : Str), ([98, 114] : Str), ([101, 109, 98, 101, 100] : Str), ([105, 109, 103] : Str), ([105, 110, 112, 117, 116] : Str), ([119, 98, 114] : Str), ([112, 97, 114, 97, 109] : Str), ([115, 111, 117, 114, 99, 101] : Str), ([116, 114, 97, 99, 107] : Str)] : List Str).getD b.toNat [])))) (hT.vals 12 rfl 64 rfl)
     exact ovr hAp rfl (r_move (hAp.get rfl)) fun _ => Eq.refl _
    ·intro a w hT
     have hAp := hT.ag m [(7, Sl.v l)] ⟨rfl, trivial⟩ (by kernel_rfl)
     have hAp := hAp.add (t := 65) (v := .bool (decide (d ≠ (([([97, 114, 101, 97] : Str), ([98, 114] : Str), ([101, 109, 98, 101, 100] : Str), ([105, 109, 103] : Str), ([105, 110, 112, 117, 116] : Str), ([119, 98, 114] : Str), ([112, 97, 114, 97, 109] : Str), ([115, 111, 117, 114, 99, 101] : Str), ([116, 114, 97, 99, 107] : Str)] : List Str).getD b.toNat [])))) (hT.vals 13 rfl 65 rfl)
     exact opk_gval hAp rfl rfl (g := true) (e := (decide (d ≠ (([([97, 114, 101, 97] : Str), ([98, 114] : Str), ([101, 109, 98, 101, 100] : Str), ([105, 109, 103] : Str), ([105, 110, 112, 117, 116] : Str), ([119, 98, 114] : Str), ([112, 97, 114, 97, 109] : Str), ([115, 111, 117, 114, 99, 101] : Str), ([116, 114, 97, 99, 107] : Str)] : List Str).getD b.toNat [])))) rfl (fun hg => r_move (hAp.get rfl)) fun _ _ e => ⟨_, e, Chg.refl _ _, fun _ => Eq.refl _⟩
    ·intro a w hT
     have hAp := hT.ag m [(9, .int .i64 c)] ⟨rfl, trivial⟩ (by kernel_rfl)
     have hAp := hAp.add (t := 65) (v := .bool (decide (d ≠ (([([97, 114, 101, 97] : Str), ([98, 114] : Str), ([101, 109, 98, 101, 100] : Str), ([105, 109, 103] : Str), ([105, 110, 112, 117, 116] : Str), ([119, 98, 114] : Str), ([112, 97, 114, 97, 109] : Str), ([115, 111, 117, 114, 99, 101] : Str), ([116, 114, 97, 99, 107] : Str)] : List Str).getD b.toNat [])))) (hT.vals 13 rfl 65 rfl)
     exact opk_gval hAp rfl rfl (g := true) (e := (decide (d ≠ (([([97, 114, 101, 97] : Str), ([98, 114] : Str), ([101, 109, 98, 101, 100] : Str), ([105, 109, 103] : Str), ([105, 110, 112, 117, 116] : Str), ([119, 98, 114] : Str), ([112, 97, 114, 97, 109] : Str), ([115, 111, 117, 114, 99, 101] : Str), ([116, 114, 97, 99, 107] : Str)] : List Str).getD b.toNat [])))) rfl (fun hg => r_move (hAp.get rfl)) fun _ _ e => ⟨_, e, Chg.refl _ _, fun _ => Eq.refl _⟩
    ·intro a w hT
     have hAp := hT.ag m [] trivial (by kernel_rfl)
     have hAp := hAp.add (t := 65) (v := .bool (decide (d ≠ (([([97, 114, 101, 97] : Str), ([98, 114] : Str), ([101, 109, 98, 101, 100] : Str), ([105, 109, 103] : Str), ([105, 110, 112, 117, 116] : Str), ([119, 98, 114] : Str), ([112, 97, 114, 97, 109] : Str), ([115, 111, 117, 114, 99, 101] : Str), ([116, 114, 97, 99, 107] : Str)] : List Str).getD b.toNat [])))) (hT.vals 13 rfl 65 rfl)
     have hAp := hAp.add (t := 66) (v := cV (true && ((decide (d ≠ (([([97, 114, 101, 97] : Str), ([98, 114] : Str), ([101, 109, 98, 101, 100] : Str), ([105, 109, 103] : Str), ([105, 110, 112, 117, 116] : Str), ([119, 98, 114] : Str), ([112, 97, 114, 97, 109] : Str), ([115, 111, 117, 114, 99, 101] : Str), ([116, 114, 97, 99, 107] : Str)] : List Str).getD b.toNat []))) == false)) (Sl.v l)) (hT.vals 14 rfl 66 rfl)
     have hAp := hAp.add (t := 67) (v := cV (true && ((decide (d ≠ (([([97, 114, 101, 97] : Str), ([98, 114] : Str), ([101, 109, 98, 101, 100] : Str), ([105, 109, 103] : Str), ([105, 110, 112, 117, 116] : Str), ([119, 98, 114] : Str), ([112, 97, 114, 97, 109] : Str), ([115, 111, 117, 114, 99, 101] : Str), ([116, 114, 97, 99, 107] : Str)] : List Str).getD b.toNat []))) == false)) (.int .i64 c)) (hT.vals 15 rfl 67 rfl)
     exact opk_gval hAp rfl rfl (g := true) (e := (decide (d ≠ (([([97, 114, 101, 97] : Str), ([98, 114] : Str), ([101, 109, 98, 101, 100] : Str), ([105, 109, 103] : Str), ([105, 110, 112, 117, 116] : Str), ([119, 98, 114] : Str), ([112, 97, 114, 97, 109] : Str), ([115, 111, 117, 114, 99, 101] : Str), ([116, 114, 97, 99, 107] : Str)] : List Str).getD b.toNat [])))) rfl (fun hg => r_indexAddr (cv_get (hAp.get rfl) hg) (cv_get (hAp.get rfl) hg) tU26 ti_28 (bL (of_decide_eq_false (g_f hg))).1 (bL (of_decide_eq_false (g_f hg))).2) fun _ _ e => ⟨_, e, Chg.refl _ _, fun _ => Eq.refl _⟩
    ·intro a w hT
     have hAp := hT.ag m [] trivial (by kernel_rfl)
     have hAp := hAp.add (t := 65) (v := .bool (decide (d ≠ (([([97, 114, 101, 97] : Str), ([98, 114] : Str), ([101, 109, 98, 101, 100] : Str), ([105, 109, 103] : Str), ([105, 110, 112, 117, 116] : Str), ([119, 98, 114] : Str), ([112, 97, 114, 97, 109] : Str), ([115, 111, 117, 114, 99, 101] : Str), ([116, 114, 97, 99, 107] : Str)] : List Str).getD b.toNat [])))) (hT.vals 13 rfl 65 rfl)
     have hAp := hAp.add (t := 68) (v := cV (true && ((decide (d ≠ (([([97, 114, 101, 97] : Str), ([98, 114] : Str), ([101, 109, 98, 101, 100] : Str), ([105, 109, 103] : Str), ([105, 110, 112, 117, 116] : Str), ([119, 98, 114] : Str), ([112, 97, 114, 97, 109] : Str), ([115, 111, 117, 114, 99, 101] : Str), ([116, 114, 97, 99, 107] : Str)] : List Str).getD b.toNat []))) == false)) (.pointer (some (ad.add (c.toNat * 5))))) (hT.vals 16 rfl 68 rfl)
     exact opk_gval hAp rfl rfl (g := true) (e := (decide (d ≠ (([([97, 114, 101, 97] : Str), ([98, 114] : Str), ([101, 109, 98, 101, 100] : Str), ([105, 109, 103] : Str), ([105, 110, 112, 117, 116] : Str), ([119, 98, 114] : Str), ([112, 97, 114, 97, 109] : Str), ([115, 111, 117, 114, 99, 101] : Str), ([116, 114, 97, 99, 107] : Str)] : List Str).getD b.toNat [])))) rfl (fun hg => r_fieldAddr (cv_get (hAp.get rfl) hg) Tryz.underlying28 rfl ti_26 (by decide)) fun _ _ e => ⟨_, e, Chg.refl _ _, fun _ => Eq.refl _⟩
    ·intro a w hT
     have hAp := hT.ag m [] trivial (by kernel_rfl)
     have hAp := hAp.add (t := 65) (v := .bool (decide (d ≠ (([([97, 114, 101, 97] : Str), ([98, 114] : Str), ([101, 109, 98, 101, 100] : Str), ([105, 109, 103] : Str), ([105, 110, 112, 117, 116] : Str), ([119, 98, 114] : Str), ([112, 97, 114, 97, 109] : Str), ([115, 111, 117, 114, 99, 101] : Str), ([116, 114, 97, 99, 107] : Str)] : List Str).getD b.toNat [])))) (hT.vals 13 rfl 65 rfl)
     have hAp := hAp.add (t := 69) (v := cV (true && ((decide (d ≠ (([([97, 114, 101, 97] : Str), ([98, 114] : Str), ([101, 109, 98, 101, 100] : Str), ([105, 109, 103] : Str), ([105, 110, 112, 117, 116] : Str), ([119, 98, 114] : Str), ([112, 97, 114, 97, 109] : Str), ([115, 111, 117, 114, 99, 101] : Str), ([116, 114, 97, 99, 107] : Str)] : List Str).getD b.toNat []))) == false)) (.pointer (some ((ad.add (c.toNat * 5)).add 4)))) (hT.vals 17 rfl 69 rfl)
     exact opk_gval hAp rfl rfl (g := true) (e := (decide (d ≠ (([([97, 114, 101, 97] : Str), ([98, 114] : Str), ([101, 109, 98, 101, 100] : Str), ([105, 109, 103] : Str), ([105, 110, 112, 117, 116] : Str), ([119, 98, 114] : Str), ([112, 97, 114, 97, 109] : Str), ([115, 111, 117, 114, 99, 101] : Str), ([116, 114, 97, 99, 107] : Str)] : List Str).getD b.toNat [])))) rfl (fun hg => r_load1 tU26 rfl (cv_get (hAp.get rfl) hg) (Ext.cell hT.chg (dn (of_decide_eq_false (g_f hg))))) fun _ _ e => ⟨_, e, Chg.refl _ _, fun _ => Eq.refl _⟩
    ·intro a w hT
     have hAp := hT.ag m [] trivial (by kernel_rfl)
     have hAp := hAp.add (t := 65) (v := .bool (decide (d ≠ (([([97, 114, 101, 97] : Str), ([98, 114] : Str), ([101, 109, 98, 101, 100] : Str), ([105, 109, 103] : Str), ([105, 110, 112, 117, 116] : Str), ([119, 98, 114] : Str), ([112, 97, 114, 97, 109] : Str), ([115, 111, 117, 114, 99, 101] : Str), ([116, 114, 97, 99, 107] : Str)] : List Str).getD b.toNat [])))) (hT.vals 13 rfl 65 rfl)
     have hAp := hAp.add (t := 70) (v := cV (true && ((decide (d ≠ (([([97, 114, 101, 97] : Str), ([98, 114] : Str), ([101, 109, 98, 101, 100] : Str), ([105, 109, 103] : Str), ([105, 110, 112, 117, 116] : Str), ([119, 98, 114] : Str), ([112, 97, 114, 97, 109] : Str), ([115, 111, 117, 114, 99, 101] : Str), ([116, 114, 97, 99, 107] : Str)] : List Str).getD b.toNat []))) == false)) (Sl.v q)) (hT.vals 18 rfl 70 rfl)
     exact opk_gval hAp rfl rfl (g := true) (e := (decide (d ≠ (([([97, 114, 101, 97] : Str), ([98, 114] : Str), ([101, 109, 98, 101, 100] : Str), ([105, 109, 103] : Str), ([105, 110, 112, 117, 116] : Str), ([119, 98, 114] : Str), ([112, 97, 114, 97, 109] : Str), ([115, 111, 117, 114, 99, 101] : Str), ([116, 114, 97, 99, 107] : Str)] : List Str).getD b.toNat [])))) rfl (fun hg => r_len (cv_get (hAp.get rfl) hg) tU26) fun _ _ e => ⟨_, e, Chg.refl _ _, fun _ => Eq.refl _⟩
    ·intro a w hT
     have hAp := hT.ag m [] trivial (by kernel_rfl)
     have hAp := hAp.add (t := 65) (v := .bool (decide (d ≠ (([([97, 114, 101, 97] : Str), ([98, 114] : Str), ([101, 109, 98, 101, 100] : Str), ([105, 109, 103] : Str), ([105, 110, 112, 117, 116] : Str), ([119, 98, 114] : Str), ([112, 97, 114, 97, 109] : Str), ([115, 111, 117, 114, 99, 101] : Str), ([116, 114, 97, 99, 107] : Str)] : List Str).getD b.toNat [])))) (hT.vals 13 rfl 65 rfl)
     have hAp := hAp.add (t := 71) (v := cV (true && ((decide (d ≠ (([([97, 114, 101, 97] : Str), ([98, 114] : Str), ([101, 109, 98, 101, 100] : Str), ([105, 109, 103] : Str), ([105, 110, 112, 117, 116] : Str), ([119, 98, 114] : Str), ([112, 97, 114, 97, 109] : Str), ([115, 111, 117, 114, 99, 101] : Str), ([116, 114, 97, 99, 107] : Str)] : List Str).getD b.toNat []))) == false)) (.int .i64 (q.n : Int))) (hT.vals 19 rfl 71 rfl)
     exact opk_gval hAp rfl rfl (g := true) (e := (decide (d ≠ (([([97, 114, 101, 97] : Str), ([98, 114] : Str), ([101, 109, 98, 101, 100] : Str), ([105, 109, 103] : Str), ([105, 110, 112, 117, 116] : Str), ([119, 98, 114] : Str), ([112, 97, 114, 97, 109] : Str), ([115, 111, 117, 114, 99, 101] : Str), ([116, 114, 97, 99, 107] : Str)] : List Str).getD b.toNat [])))) rfl (fun hg => r_neq (cv_get (hAp.get rfl) hg) rfl) fun _ _ e => ⟨_, e, Chg.refl _ _, fun _ => Eq.refl _⟩
    ·intro a w hT
     have hAp := hT.ag m [] trivial (by kernel_rfl)
     have hAp := hAp.add (t := 65) (v := .bool (decide (d ≠ (([([97, 114, 101, 97] : Str), ([98, 114] : Str), ([101, 109, 98, 101, 100] : Str), ([105, 109, 103] : Str), ([105, 110, 112, 117, 116] : Str), ([119, 98, 114] : Str), ([112, 97, 114, 97, 109] : Str), ([115, 111, 117, 114, 99, 101] : Str), ([116, 114, 97, 99, 107] : Str)] : List Str).getD b.toNat [])))) (hT.vals 13 rfl 65 rfl)
     have hAp := hAp.add (t := 72) (v := cV (true && ((decide (d ≠ (([([97, 114, 101, 97] : Str), ([98, 114] : Str), ([101, 109, 98, 101, 100] : Str), ([105, 109, 103] : Str), ([105, 110, 112, 117, 116] : Str), ([119, 98, 114] : Str), ([112, 97, 114, 97, 109] : Str), ([115, 111, 117, 114, 99, 101] : Str), ([116, 114, 97, 99, 107] : Str)] : List Str).getD b.toNat []))) == false)) (.bool (decide ((q.n : Int) ≠ 0)))) (hT.vals 20 rfl 72 rfl)
     exact ovr hAp rfl (r_pick_or (g := (true && ((decide (d ≠ (([([97, 114, 101, 97] : Str), ([98, 114] : Str), ([101, 109, 98, 101, 100] : Str), ([105, 109, 103] : Str), ([105, 110, 112, 117, 116] : Str), ([119, 98, 114] : Str), ([112, 97, 114, 97, 109] : Str), ([115, 111, 117, 114, 99, 101] : Str), ([116, 114, 97, 99, 107] : Str)] : List Str).getD b.toNat []))) == false))) (hAp.get rfl) (hAp.get rfl) (fun he => g_mkf rfl he)) fun _ => Eq.refl _
    ·intro dp x bN dq dr
     have ds := dq [(0, Sl.v f), (3, pB i 0), (5, .int .i64 j), (7, Sl.v l), (9, .int .i64 c)] ⟨rfl, rfl, rfl, rfl, rfl, trivial⟩ (by kernel_rfl)
     have dt : dp.tmps.getD 73 undef = .bool ((decide (d ≠ (([([97, 114, 101, 97] : Str), ([98, 114] : Str), ([101, 109, 98, 101, 100] : Str), ([105, 109, 103] : Str), ([105, 110, 112, 117, 116] : Str), ([119, 98, 114] : Str), ([112, 97, 114, 97, 109] : Str), ([115, 111, 117, 114, 99, 101] : Str), ([116, 114, 97, 99, 107] : Str)] : List Str).getD b.toNat []))) || (decide ((q.n : Int) ≠ 0))) := dr 21 rfl 73 rfl
     have du := ds.add dt
     have dv := bH.ext bN
     have bO : Chg [] u x := bN
     refine PR_end (by kernel_rfl) ?_
     have ar := du.kp [(0, Sl.v f), (3, pB i 0), (5, .int .i64 j), (7, Sl.v l), (9, .int .i64 c), (73, .bool ((decide (d ≠ (([([97, 114, 101, 97] : Str), ([98, 114] : Str), ([101, 109, 98, 101, 100] : Str), ([105, 109, 103] : Str), ([105, 110, 112, 117, 116] : Str), ([119, 98, 114] : Str), ([112, 97, 114, 97, 109] : Str), ([115, 111, 117, 114, 99, 101] : Str), ([116, 114, 97, 99, 107] : Str)] : List Str).getD b.toNat []))) || (decide ((q.n : Int) ≠ 0))))] rfl
     refine then_normal ?_
     refine wp_cond_split (ar.get rfl) (fun hc => ?_) (fun hc => ?_)
     ·have dx := bM.1 ((b_or_t hc).imp (fun h => (of_decide_eq_true h)) (fun h => (of_decide_eq_true h)))
      clear hc
      refine wp_seq (wp_region_lit ?_)
      refine sqv ar rfl (r_assign rfl) fun _ dy => sq_end ?_
      have bP := dy.kp [(2, .bool false)] rfl
      refine then_normal ?_
      refine wp_ret ?_
      refine block_ret ?_
      refine then_ret ?_
      refine then_ret ?_
      refine block_ret ?_
      refine then_ret ?_
      have dz := dx x    bO
      exact res_all (vs := [.bool false]) rfl bP ⟨res_of_tmp bP rfl, trivial⟩ dz
     ·have dA := bM.2 ⟨(of_decide_eq_false (b_or_f hc).1), (of_decide_eq_false (b_or_f hc).2)⟩
      clear hc
      refine wp_skip ?_
      refine block_normal ?_
      refine then_normal (wp_region_lit ?_)
      refine sqv ar rfl (r_move (ar.get rfl)) fun _ bQ => ?_
      obtain ⟨dB, dC⟩ := dA
      refine sqv bQ rfl (r_addI (bQ.get rfl) rfl dB) fun _ bR => sqv bR rfl (r_assign (bR.get rfl)) fun _ dD => sq_end ?_
      have dG := dD.kp [(0, Sl.v f), (3, pB i 0), (5, .int .i64 j), (7, Sl.v l), (9, .int .i64 (c + 1))] rfl
      have bS := dC x    bO
      have dH := dG.kp [(0, Sl.v f), (3, pB i 0), (5, .int .i64 j), (7, Sl.v l), (9, .int .i64 (c + 1))] rfl
      exact then_normal ⟨(c + 1, x), ⟨dH, dv, rfl, bS.1⟩, bS.2⟩
   ·have dI := bD.2 (of_decide_eq_false hc)
    clear hc
    refine wp_exit ?_
    refine then_exit ?_
    refine then_exit ?_
    refine block_hit ?_
    have dJ := m.kp [] rfl
    refine then_normal (wp_seq (wp_region_lit ?_))
    refine sq (opk_call dJ rfl (r_call (args := #[]) Tryz.func10 (by decide) rfl (map_arr ml_nil) rfl) dI fun d6 d7 aI bT _ d8 d9 dK => ?_)
    obtain ⟨ak, rfl, dL⟩ := dK
    refine sqv bT rfl (r_assign (bT.get rfl)) fun _ dM => sq_end ?_
    have bU := dM.kp [(2, .bool ak)] rfl
    refine then_normal ?_
    refine wp_ret ?_
    exact res_all (vs := [.bool ak]) rfl bU ⟨res_of_tmp bU rfl, trivial⟩ dL
end Go.Proofs.YtenokfdkckhhiaaGreatDoor
