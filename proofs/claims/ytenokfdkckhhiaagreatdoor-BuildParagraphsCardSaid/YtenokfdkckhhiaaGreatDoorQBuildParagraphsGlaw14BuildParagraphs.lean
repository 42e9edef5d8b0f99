/-
  PRINTED BY PROGRAM: for each function its condition (vc), and that this suffices (ok).
-/
import Derived.Test.YtenokfdkckhhiaaGreatDoorQBuildParagraphsGT
namespace Go.Proofs.YtenokfdkckhhiaaGreatDoor
open Go.RowKit
set_option linter.unusedVariables false
set_option maxHeartbeats 1000000
set_option maxRecDepth 10000
def law14_BuildParagraphs.vc (ah : Int) (j : Sl) (R : Value → World → Prop) (w : World) : Prop :=
CallK Tryz.prog 15 #[.int .i64 ah, .int .i64 20] w [] (fun v w8 => ∃ (i : Int), v = .int .i64 i ∧
∃ (aj : Str → Int → World → Prop) (ak : Str → Int → World → Nat),
aj ([] : Str) 0 w8 ∧
(∀ (k : Str) (b : Int) (u : World), aj k b u →
((b < i) →
(List.length k + List.length ([60, 112, 62] : Str) ≤ 9223372036854775807) ∧
(I64 (b + 1)) ∧
((0 : Int) ≤ b ∧ (b : Int) ≤ b + 1 ∧ b + 1 ≤ (([97, 98, 99, 100, 101, 102, 103, 104, 105, 106, 107, 108, 109, 110, 111, 112, 113, 114, 115, 116] : Str).length : Int)) ∧
(List.length (k ++ ([60, 112, 62] : Str)) + List.length ((List.drop b.toNat ([97, 98, 99, 100, 101, 102, 103, 104, 105, 106, 107, 108, 109, 110, 111, 112, 113, 114, 115, 116] : Str)).take ((b + 1).toNat - b.toNat)) ≤ 9223372036854775807) ∧
∃ aS : Addr, (((b < (j.n : Int))) → ((0 : Int) ≤ b ∧ b < (j.n : Int)) ∧  j.a = some aS) ∧
∃ (al : Bool), (((b < (j.n : Int))) → u.cell? (aS.add (b.toNat * 1)) = some (.bool al)) ∧
(((b < (j.n : Int)) ∧ (al = true)) →
(List.length ((k ++ ([60, 112, 62] : Str)) ++ ((List.drop b.toNat ([97, 98, 99, 100, 101, 102, 103, 104, 105, 106, 107, 108, 109, 110, 111, 112, 113, 114, 115, 116] : Str)).take ((b + 1).toNat - b.toNat))) + List.length ([60, 47, 112, 62] : Str) ≤ 9223372036854775807) ∧
(I64 (b + 1)) ∧
aj (((k ++ ([60, 112, 62] : Str)) ++ ((List.drop b.toNat ([97, 98, 99, 100, 101, 102, 103, 104, 105, 106, 107, 108, 109, 110, 111, 112, 113, 114, 115, 116] : Str)).take ((b + 1).toNat - b.toNat))) ++ ([60, 47, 112, 62] : Str)) (b + 1) u ∧ ak (((k ++ ([60, 112, 62] : Str)) ++ ((List.drop b.toNat ([97, 98, 99, 100, 101, 102, 103, 104, 105, 106, 107, 108, 109, 110, 111, 112, 113, 114, 115, 116] : Str)).take ((b + 1).toNat - b.toNat))) ++ ([60, 47, 112, 62] : Str)) (b + 1) u < ak k b u) ∧
(((¬ (b < (j.n : Int))) ∨ (al = false)) →
(I64 (b + 1)) ∧
aj ((k ++ ([60, 112, 62] : Str)) ++ ((List.drop b.toNat ([97, 98, 99, 100, 101, 102, 103, 104, 105, 106, 107, 108, 109, 110, 111, 112, 113, 114, 115, 116] : Str)).take ((b + 1).toNat - b.toNat))) (b + 1) u ∧ ak ((k ++ ([60, 112, 62] : Str)) ++ ((List.drop b.toNat ([97, 98, 99, 100, 101, 102, 103, 104, 105, 106, 107, 108, 109, 110, 111, 112, 113, 114, 115, 116] : Str)).take ((b + 1).toNat - b.toNat))) (b + 1) u < ak k b u)) ∧
((¬ (b < i)) →
(List.length ([60, 98, 111, 100, 121, 62] : Str) + List.length k ≤ 9223372036854775807) ∧
CallK Tryz.prog 16 #[.string (Bs (([60, 98, 111, 100, 121, 62] : Str) ++ k))] u [] (fun v bo => ∃ (az : Sl), v = Sl.v az ∧
CallK Tryz.prog 11 #[Sl.v az] bo [] (fun v am => ∃ (aA : Int) (aB : Str) (aC : Str) (aD : Sl) (o : Sl) (p : Int), v = .tuple #[.agg #[.int .i64 aA, .string (Bs aB), .string (Bs aC), Sl.v aD, Sl.v o], .int .i64 p] ∧
∃ aU : Addr, ((((¬ (p ≠ 0)) ∧ (¬ ((o.n : Int) ≠ 1)))) → ((0 : Int) ≤ 0 ∧ 0 < (o.n : Int)) ∧  o.a = some aU) ∧
∀ (r : World) (ad : Nat), New am ad r → Chg [] am r →
∃ (an : Sl), ((((¬ (p ≠ 0)) ∧ (¬ ((o.n : Int) ≠ 1)))) → r.cell? ((aU.add (0 * 5)).add 4) = some (Sl.v an)) ∧
((((p ≠ 0) ∨ ((o.n : Int) ≠ 1)) ∨ ((an.n : Int) ≠ 2)) →
R (.bool false) r) ∧
((((¬ (p ≠ 0)) ∧ (¬ ((o.n : Int) ≠ 1))) ∧ (¬ ((an.n : Int) ≠ 2))) →
((0 : Int) ≤ 0 ∧ 0 < (o.n : Int)) ∧ ∃ aV : Addr, o.a = some aV ∧
∃ (aG : Sl), (r.cell? ((aV.add (0 * 5)).add 4) = some (Sl.v aG)) ∧
((0 : Int) ≤ 1 ∧ 1 < (aG.n : Int)) ∧ ∃ aX : Addr, aG.a = some aX ∧
∃ (ao : Int) (ap : Str) (aq : Str) (ar : Sl) (aa : Sl), (Cells r (aX.add (1 * 5)) [.int .i64 ao, .string (Bs ap), .string (Bs aq), Sl.v ar, Sl.v aa]) ∧
(((aa.n : Int) ≠ i) →
∀ (x : World) (l : Nat), New r l x → Chg [] r x →
R (.bool false) x) ∧
((¬ ((aa.n : Int) ≠ i)) →
∀ (x : World) (l : Nat), New r l x → Chg [] r x →
∃ (au : Int → World → Prop) (aH : Int → World → Nat),
au 0 x ∧
(∀ (f : Int) (ab : World), au f ab →
((f < i) →
((0 : Int) ≤ f ∧ f < (aa.n : Int)) ∧ ∃ aY : Addr, aa.a = some aY ∧
∃ (aI : Int) (c : Str) (aJ : Str) (aK : Sl) (d : Sl), (Cells ab (aY.add (f.toNat * 5)) [.int .i64 aI, .string (Bs c), .string (Bs aJ), Sl.v aK, Sl.v d]) ∧
∀ (af : World) (q : Nat), New ab q af → Chg [] ab af →
∃ ai : Addr, ((((¬ (c ≠ ([112] : Str))) ∧ (¬ ((d.n : Int) ≠ 1)))) → ((0 : Int) ≤ 0 ∧ 0 < (d.n : Int)) ∧ d.a = some ai) ∧
∃ (y : Str), ((((¬ (c ≠ ([112] : Str))) ∧ (¬ ((d.n : Int) ≠ 1)))) → af.cell? ((ai.add (0 * 5)).add 2) = some (.string (Bs y))) ∧
((((¬ (c ≠ ([112] : Str))) ∧ (¬ ((d.n : Int) ≠ 1)))) → I64 (f + 1)) ∧
((((¬ (c ≠ ([112] : Str))) ∧ (¬ ((d.n : Int) ≠ 1)))) → (0 : Int) ≤ f ∧ (f : Int) ≤ f + 1 ∧ f + 1 ≤ (([97, 98, 99, 100, 101, 102, 103, 104, 105, 106, 107, 108, 109, 110, 111, 112, 113, 114, 115, 116] : Str).length : Int)) ∧
((((c ≠ ([112] : Str)) ∨ ((d.n : Int) ≠ 1)) ∨ (y ≠ ((List.drop f.toNat ([97, 98, 99, 100, 101, 102, 103, 104, 105, 106, 107, 108, 109, 110, 111, 112, 113, 114, 115, 116] : Str)).take ((f + 1).toNat - f.toNat)))) →
∀ (z : World), Chg [] af z →
R (.bool false) z) ∧
((((¬ (c ≠ ([112] : Str))) ∧ (¬ ((d.n : Int) ≠ 1))) ∧ (¬ (y ≠ ((List.drop f.toNat ([97, 98, 99, 100, 101, 102, 103, 104, 105, 106, 107, 108, 109, 110, 111, 112, 113, 114, 115, 116] : Str)).take ((f + 1).toNat - f.toNat))))) →
(I64 (f + 1)) ∧
∀ (z : World), Chg [] af z →
au (f + 1) z ∧ aH (f + 1) z < aH f ab)) ∧
((¬ (f < i)) →
CallK Tryz.prog 10 #[] ab [] (fun v bp => ∃ (av : Bool), v = .bool av ∧
R (.bool av) bp))))))))))
theorem law14_BuildParagraphs.ok (ah : Int) (j : Sl) {R : Value → World → Prop} {w : World} (bq : law14_BuildParagraphs.vc ah j R w) : Calls Tryz.prog 4 #[.int .i64 ah, Sl.v j] w (Ret R) := by
 refine enter [.int .i64 ah, Sl.v j] Tryz.func4 rfl Tryz.ntmps4 rfl ?_
 intro a0 dj
 unfold law14_BuildParagraphs.vc at bq
 refine wp_seq (wp_region_lit ?_)
 refine sqv dj rfl (r_assign rfl) fun _ dk => sq_end ?_
 have bs := dk.kp [(0, .int .i64 ah), (1, Sl.v j)] rfl
 refine then_normal (wp_seq (wp_region_lit ?_))
 refine sqv bs rfl (r_move (bs.get rfl)) fun _ bt => ?_
 refine sq (opk_call bt rfl (r_call (args := #[.int .i64 ah, .int .i64 20]) Tryz.func15 (by decide) rfl (map_arr (ml_cons (bt.get rfl) (ml_cons rfl ml_nil))) rfl) bq fun a7 hr w8 bu _ hs ht dl => ?_)
 obtain ⟨i, rfl, dm⟩ := dl
 refine sqv bu rfl (r_assign (bu.get rfl)) fun _ dn => sq_end ?_
 have dp := dn.kp [(1, Sl.v j), (5, .int .i64 i)] rfl
 refine then_normal (wp_seq (wp_region_lit ?_))
 refine sqv dp rfl (r_assign rfl) fun _ dq => sq_end ?_
 have dr := dq.kp [(1, Sl.v j), (5, .int .i64 i), (6, .string (Bs []))] rfl
 refine then_normal (wp_seq (wp_seq (wp_region_lit ?_)))
 refine sqv dr rfl (r_assign rfl) fun _ ds => sq_end ?_
 have dt := ds.kp [(1, Sl.v j), (5, .int .i64 i), (6, .string (Bs [])), (7, .int .i64 0)] rfl
 refine then_normal (wp_block ?_)
 obtain ⟨aj, ak, du, dv⟩ := dm
 refine wp_loop_st (σ := Str × Int × World) (fun s a w => Ag 107 a [(1, Sl.v j), (5, .int .i64 i), (6, .string (Bs s.1)), (7, .int .i64 s.2.1)] ∧ w = s.2.2 ∧ aj s.1 s.2.1 s.2.2) (fun s => ak s.1 s.2.1 s.2.2) (([] : Str), 0, w8) ⟨dt.kp [(1, Sl.v j), (5, .int .i64 i), (6, .string (Bs [])), (7, .int .i64 0)] rfl, rfl, du⟩ ?_
 rintro ⟨k, b, u⟩ hu w_ ⟨bv, hw_, dx⟩
 have hw_ : u = w_ := hw_.symm
 subst hw_
 have bx := dv k b _ dx
 refine wp_seq (wp_seq (wp_region_lit ?_))
 refine sqv bv rfl (r_move (bv.get rfl)) fun _ bz => sqv bz rfl (r_move (bz.get rfl)) fun _ aZ => sqv aZ rfl (r_lss (aZ.get rfl) (aZ.get rfl)) fun _ dy => sq_end ?_
 have aL := dy.kp [(1, Sl.v j), (5, .int .i64 i), (6, .string (Bs k)), (7, .int .i64 b), (17, .bool (decide (b < i)))] rfl
 refine then_normal ?_
 refine wp_cond_split (aL.get rfl) (fun hc => ?_) (fun hc => ?_)
 ·have dz := bx.1 (of_decide_eq_true hc)
  clear hc
  refine wp_skip ?_
  refine then_normal (wp_seq (wp_block (wp_seq (wp_region_lit ?_))))
  refine sqv aL rfl (r_move (aL.get rfl)) fun _ bA => ?_
  obtain ⟨dA, dB⟩ := dz
  refine sqv bA rfl (r_sadd (bA.get rfl) rfl dA) fun _ bB => sqv bB rfl (r_move (bB.get rfl)) fun _ bC => sqv bC rfl (r_move (bC.get rfl)) fun _ bD => ?_
  obtain ⟨dC, dD⟩ := dB
  refine sqv bD rfl (r_addI (bD.get rfl) rfl dC) fun _ hA104 => ?_
  obtain ⟨dG, dH⟩ := dD
  refine sqv hA104 rfl (r_sslice2 rfl (hA104.get rfl) (hA104.get rfl) tU9 dG) fun _ a1 => ?_
  obtain ⟨dI, dJ⟩ := dH
  refine sqv a1 rfl (r_sadd (a1.get rfl) (a1.get rfl) dI) fun _ bF => sqv bF rfl (r_assign (bF.get rfl)) fun _ dK => sq_end ?_
  have bG := dK.kp [(1, Sl.v j), (5, .int .i64 i), (6, .string (Bs ((k ++ ([60, 112, 62] : Str)) ++ ((List.drop b.toNat ([97, 98, 99, 100, 101, 102, 103, 104, 105, 106, 107, 108, 109, 110, 111, 112, 113, 114, 115, 116] : Str)).take ((b + 1).toNat - b.toNat))))), (7, .int .i64 b)] rfl
  refine then_normal (wp_seq (wp_region_lit ?_))
  refine sqv bG rfl (r_move (bG.get rfl)) fun _ bH => sqv bH rfl (r_move (bH.get rfl)) fun _ bI => sqv bI rfl (r_len (bI.get rfl) tU35) fun _ a2 => sqv a2 rfl (r_lss (a2.get rfl) (a2.get rfl)) fun _ bJ => sqv bJ rfl (r_move (bJ.get rfl)) fun _ bK => ?_
  refine sq (opk_gval bK rfl rfl (g := true) (e := (decide (b < (j.n : Int)))) rfl (fun hg => r_move (bK.get rfl)) fun hv bL _ => ?_)
  refine sq (opk_gval bL rfl rfl (g := true) (e := (decide (b < (j.n : Int)))) rfl (fun hg => r_move (bL.get rfl)) fun hx a3 _ => ?_)
  obtain ⟨aS, bM, dL⟩ := dJ
  refine sq (opk_gval a3 rfl rfl (g := true) (e := (decide (b < (j.n : Int)))) rfl (fun hg => r_indexAddr (cv_get (a3.get rfl) hg) (cv_get (a3.get rfl) hg) tU35 ti_4 (bM (of_decide_eq_true (g_t hg))).1 (bM (of_decide_eq_true (g_t hg))).2) fun hy bN _ => ?_)
  obtain ⟨al, dM, bO⟩ := dL
  refine sq (opk_gval bN rfl rfl (g := true) (e := (decide (b < (j.n : Int)))) rfl (fun hg => r_load1 tU4 rfl (cv_get (bN.get rfl) hg) (dM (of_decide_eq_true (g_t hg)))) fun hz a4 _ => ?_)
  refine sqv a4 rfl (r_pick_and (g := (true && ((decide (b < (j.n : Int))) == true))) (a4.get rfl) (a4.get rfl) (fun he => g_mkt rfl he)) fun _ dN => sq_end ?_
  have ax := dN.kp [(1, Sl.v j), (5, .int .i64 i), (6, .string (Bs ((k ++ ([60, 112, 62] : Str)) ++ ((List.drop b.toNat ([97, 98, 99, 100, 101, 102, 103, 104, 105, 106, 107, 108, 109, 110, 111, 112, 113, 114, 115, 116] : Str)).take ((b + 1).toNat - b.toNat))))), (7, .int .i64 b), (36, .bool ((decide (b < (j.n : Int))) && al))] rfl
  refine then_normal ?_
  refine wp_cond_split (ax.get rfl) (fun hc => ?_) (fun hc => ?_)
  ·have dO := bO.1 ⟨(of_decide_eq_true (b_and_t hc).1), (b_and_t hc).2⟩
   clear hc
   refine wp_region_lit ?_
   refine sqv ax rfl (r_move (ax.get rfl)) fun _ bP => ?_
   obtain ⟨dP, dQ⟩ := dO
   refine sqv bP rfl (r_sadd (bP.get rfl) rfl dP) fun _ bQ => sqv bQ rfl (r_assign (bQ.get rfl)) fun _ dR => sq_end ?_
   have bR := dR.kp [(1, Sl.v j), (5, .int .i64 i), (6, .string (Bs (((k ++ ([60, 112, 62] : Str)) ++ ((List.drop b.toNat ([97, 98, 99, 100, 101, 102, 103, 104, 105, 106, 107, 108, 109, 110, 111, 112, 113, 114, 115, 116] : Str)).take ((b + 1).toNat - b.toNat))) ++ ([60, 47, 112, 62] : Str)))), (7, .int .i64 b)] rfl
   refine block_normal ?_
   refine then_normal (wp_region_lit ?_)
   refine sqv bR rfl (r_move (bR.get rfl)) fun _ bS => ?_
   obtain ⟨dS, bT⟩ := dQ
   refine sqv bS rfl (r_addI (bS.get rfl) rfl dS) fun _ bU => sqv bU rfl (r_assign (bU.get rfl)) fun _ dU => sq_end ?_
   have dV := dU.kp [(1, Sl.v j), (5, .int .i64 i), (6, .string (Bs (((k ++ ([60, 112, 62] : Str)) ++ ((List.drop b.toNat ([97, 98, 99, 100, 101, 102, 103, 104, 105, 106, 107, 108, 109, 110, 111, 112, 113, 114, 115, 116] : Str)).take ((b + 1).toNat - b.toNat))) ++ ([60, 47, 112, 62] : Str)))), (7, .int .i64 (b + 1))] rfl
   have dX := dV.kp [(1, Sl.v j), (5, .int .i64 i), (6, .string (Bs (((k ++ ([60, 112, 62] : Str)) ++ ((List.drop b.toNat ([97, 98, 99, 100, 101, 102, 103, 104, 105, 106, 107, 108, 109, 110, 111, 112, 113, 114, 115, 116] : Str)).take ((b + 1).toNat - b.toNat))) ++ ([60, 47, 112, 62] : Str)))), (7, .int .i64 (b + 1))] rfl
   exact then_normal ⟨(((k ++ ([60, 112, 62] : Str)) ++ ((List.drop b.toNat ([97, 98, 99, 100, 101, 102, 103, 104, 105, 106, 107, 108, 109, 110, 111, 112, 113, 114, 115, 116] : Str)).take ((b + 1).toNat - b.toNat))) ++ ([60, 47, 112, 62] : Str), b + 1, u), ⟨dX, rfl, bT.1⟩, bT.2⟩
  ·have dY := bO.2 ((b_and_f hc).imp (fun h => (of_decide_eq_false h)) (fun h => h))
   clear hc
   refine wp_skip ?_
   refine block_normal ?_
   refine then_normal (wp_region_lit ?_)
   refine sqv ax rfl (r_move (ax.get rfl)) fun _ bX => ?_
   obtain ⟨dZ, bY⟩ := dY
   refine sqv bX rfl (r_addI (bX.get rfl) rfl dZ) fun _ bZ => sqv bZ rfl (r_assign (bZ.get rfl)) fun _ d0 => sq_end ?_
   have d1 := d0.kp [(1, Sl.v j), (5, .int .i64 i), (6, .string (Bs ((k ++ ([60, 112, 62] : Str)) ++ ((List.drop b.toNat ([97, 98, 99, 100, 101, 102, 103, 104, 105, 106, 107, 108, 109, 110, 111, 112, 113, 114, 115, 116] : Str)).take ((b + 1).toNat - b.toNat))))), (7, .int .i64 (b + 1))] rfl
   have d2 := d1.kp [(1, Sl.v j), (5, .int .i64 i), (6, .string (Bs ((k ++ ([60, 112, 62] : Str)) ++ ((List.drop b.toNat ([97, 98, 99, 100, 101, 102, 103, 104, 105, 106, 107, 108, 109, 110, 111, 112, 113, 114, 115, 116] : Str)).take ((b + 1).toNat - b.toNat))))), (7, .int .i64 (b + 1))] rfl
   exact then_normal ⟨((k ++ ([60, 112, 62] : Str)) ++ ((List.drop b.toNat ([97, 98, 99, 100, 101, 102, 103, 104, 105, 106, 107, 108, 109, 110, 111, 112, 113, 114, 115, 116] : Str)).take ((b + 1).toNat - b.toNat)), b + 1, u), ⟨d2, rfl, bY.1⟩, bY.2⟩
 ·have d3 := bx.2 (of_decide_eq_false hc)
  clear hc
  refine wp_exit ?_
  refine then_exit ?_
  refine then_exit ?_
  refine block_hit ?_
  have b0 := aL.kp [(5, .int .i64 i), (6, .string (Bs k))] rfl
  refine then_normal (wp_seq (wp_region_lit ?_))
  refine sqv b0 rfl (r_move (b0.get rfl)) fun _ b1 => ?_
  obtain ⟨d4, d5⟩ := d3
  refine sqv b1 rfl (r_sadd rfl (b1.get rfl) d4) fun _ b2 => ?_
  refine sq (opk_call b2 rfl (r_call (args := #[.string (Bs (([60, 98, 111, 100, 121, 62] : Str) ++ k))]) Tryz.func16 (by decide) rfl (map_arr (ml_cons (b2.get rfl) ml_nil)) rfl) d5 fun hA hB bo b3 _ hC hD d6 => ?_)
  obtain ⟨az, rfl, d7⟩ := d6
  refine sq (opk_call b3 rfl (r_call (args := #[Sl.v az]) Tryz.func11 (by decide) rfl (map_arr (ml_cons (b3.get rfl) ml_nil)) rfl) d7 fun hF hG am b4 _ hH hI d8 => ?_)
  obtain ⟨aA, aB, aC, aD, o, p, rfl, d9⟩ := d8
  refine sqv b4 rfl (r_move (b4.get rfl)) fun _ b5 => sqv b5 rfl (r_extract (b5.get rfl) rfl) fun _ b6 => sqv b6 rfl (r_extract (b6.get rfl) rfl) fun _ fa => ?_
  refine sq (opk_new (fun B => .pointer (some ⟨B, 0, none⟩)) fa rfl (r_alloc (cs := [.int .i64 0, .string (Bs []), .string (Bs []), Sl.v Sl.nil, Sl.v Sl.nil]) ti_28 rfl) fun hJ b7 ad fb fc b8 a5 _ => ?_)
  have b9 : New am ad b7 := fc
  have fd : Chg [] am b7 := fb
  refine sq (opk_store a5 b8 (r_store (vs := [.int .i64 aA, .string (Bs aB), .string (Bs aC), Sl.v aD, Sl.v o]) (a5.get rfl) (a5.get rfl) rfl ti_28 b8 rfl (ones_all _ rfl)) fun hK r ca ff cb => ?_)
  have ay : Box r ad 28 [.int .i64 aA, .string (Bs aB), .string (Bs aC), Sl.v aD, Sl.v o] := ff
  have fg := fd.storeNew b9 ca
  have fh := b9.up ca.size
  refine sqv cb rfl (r_assign (cb.get rfl)) fun _ fi => sq_end ?_
  have cc := fi.kp [(5, .int .i64 i), (8, pB ad 0), (9, .int .i64 p)] rfl
  refine then_normal (wp_seq (wp_seq (wp_region_lit ?_)))
  refine sqv cc rfl (r_move (cc.get rfl)) fun _ cd => sqv cd rfl (r_neq (cd.get rfl) rfl) fun _ cf => sqv cf rfl (r_move (cf.get rfl)) fun _ cg => ?_
  refine sq (opk_gval cg rfl rfl (g := true) (e := (decide (p ≠ 0))) rfl (fun hg => r_fieldAddr (cg.get rfl) Tryz.underlying28 rfl ti_26 (by decide)) fun hL ch _ => ?_)
  refine sq (opk_gval ch rfl rfl (g := true) (e := (decide (p ≠ 0))) rfl (fun hg => r_load1 tU26 rfl (cv_get (ch.get rfl) hg) (ay.cell 4 _ rfl)) fun hM ci _ => ?_)
  refine sq (opk_gval ci rfl rfl (g := true) (e := (decide (p ≠ 0))) rfl (fun hg => r_len (cv_get (ci.get rfl) hg) tU26) fun hN cj _ => ?_)
  refine sq (opk_gval cj rfl rfl (g := true) (e := (decide (p ≠ 0))) rfl (fun hg => r_neq (cv_get (cj.get rfl) hg) rfl) fun hO a6 _ => ?_)
  refine sqv a6 rfl (r_pick_or (g := (true && ((decide (p ≠ 0)) == false))) (a6.get rfl) (a6.get rfl) (fun he => g_mkf rfl he)) fun _ ck => sqv ck rfl (r_move (ck.get rfl)) fun _ cl => ?_
  refine sq (opk_gval cl rfl rfl (g := true) (e := ((decide (p ≠ 0)) || (decide ((o.n : Int) ≠ 1)))) rfl (fun hg => r_fieldAddr (cl.get rfl) Tryz.underlying28 rfl ti_26 (by decide)) fun hP cm _ => ?_)
  refine sq (opk_gval cm rfl rfl (g := true) (e := ((decide (p ≠ 0)) || (decide ((o.n : Int) ≠ 1)))) rfl (fun hg => r_load1 tU26 rfl (cv_get (cm.get rfl) hg) (ay.cell 4 _ rfl)) fun hQ cn _ => ?_)
  obtain ⟨aU, co, fj⟩ := d9
  refine sq (opk_gval cn rfl rfl (g := true) (e := ((decide (p ≠ 0)) || (decide ((o.n : Int) ≠ 1)))) rfl (fun hg => r_indexAddr (cv_get (cn.get rfl) hg) rfl tU26 ti_28 (co ⟨(of_decide_eq_false (b_or_f (g_f hg)).1), (of_decide_eq_false (b_or_f (g_f hg)).2)⟩).1 (co ⟨(of_decide_eq_false (b_or_f (g_f hg)).1), (of_decide_eq_false (b_or_f (g_f hg)).2)⟩).2) fun hR cp _ => ?_)
  refine sq (opk_gval cp rfl rfl (g := true) (e := ((decide (p ≠ 0)) || (decide ((o.n : Int) ≠ 1)))) rfl (fun hg => r_fieldAddr (cv_get (cp.get rfl) hg) Tryz.underlying28 rfl ti_26 (by decide)) fun hU cq _ => ?_)
  have fk := fj r ad fh  fg
  obtain ⟨an, fl, cr⟩ := fk
  refine sq (opk_gval cq rfl rfl (g := true) (e := ((decide (p ≠ 0)) || (decide ((o.n : Int) ≠ 1)))) rfl (fun hg => r_load1 tU26 rfl (cv_get (cq.get rfl) hg) (fl ⟨(of_decide_eq_false (b_or_f (g_f hg)).1), (of_decide_eq_false (b_or_f (g_f hg)).2)⟩)) fun hV ct _ => ?_)
  refine sq (opk_gval ct rfl rfl (g := true) (e := ((decide (p ≠ 0)) || (decide ((o.n : Int) ≠ 1)))) rfl (fun hg => r_len (cv_get (ct.get rfl) hg) tU26) fun hX cu _ => ?_)
  refine sq (opk_gval cu rfl rfl (g := true) (e := ((decide (p ≠ 0)) || (decide ((o.n : Int) ≠ 1)))) rfl (fun hg => r_neq (cv_get (cu.get rfl) hg) rfl) fun hY hA220 _ => ?_)
  refine sqv hA220 rfl (r_pick_or (g := (true && (((decide (p ≠ 0)) || (decide ((o.n : Int) ≠ 1))) == false))) (hA220.get rfl) (hA220.get rfl) (fun he => g_mkf rfl he)) fun _ fm => sq_end ?_
  have aM := fm.kp [(5, .int .i64 i), (8, pB ad 0), (62, .bool (((decide (p ≠ 0)) || (decide ((o.n : Int) ≠ 1))) || (decide ((an.n : Int) ≠ 2))))] rfl
  refine then_normal ?_
  refine wp_cond_split (aM.get rfl) (fun hc => ?_) (fun hc => ?_)
  ·have fn := cr.1 ((b_or_t hc).imp (fun h => ((b_or_t h).imp (fun h => (of_decide_eq_true h)) (fun h => (of_decide_eq_true h)))) (fun h => (of_decide_eq_true h)))
   clear hc
   refine wp_seq (wp_region_lit ?_)
   refine sqv aM rfl (r_assign rfl) fun _ fo => sq_end ?_
   have cv := fo.kp [(4, .bool false)] rfl
   refine then_normal ?_
   refine wp_ret ?_
   refine then_ret ?_
   exact res_all (vs := [.bool false]) rfl cv ⟨res_of_tmp cv rfl, trivial⟩ fn
  ·have fp := cr.2 ⟨⟨(of_decide_eq_false (b_or_f (b_or_f hc).1).1), (of_decide_eq_false (b_or_f (b_or_f hc).1).2)⟩, (of_decide_eq_false (b_or_f hc).2)⟩
   clear hc
   refine wp_skip ?_
   refine then_normal (wp_seq (wp_region_lit ?_))
   refine sqv aM rfl (r_fieldAddr (aM.get rfl) Tryz.underlying28 rfl ti_26 (by decide)) fun _ cx => sqv cx rfl (r_load1 tU26 rfl (cx.get rfl) (ay.cell 4 _ rfl)) fun _ cy => ?_
   obtain ⟨fq, aV, fr, fs⟩ := fp
   refine sqv cy rfl (r_indexAddr (cy.get rfl) rfl tU26 ti_28 fq fr) fun _ cz => sqv cz rfl (r_fieldAddr (cz.get rfl) Tryz.underlying28 rfl ti_26 (by decide)) fun _ cA => ?_
   obtain ⟨aG, ft, fu⟩ := fs
   refine sqv cA rfl (r_load1 tU26 rfl (cA.get rfl) ft) fun _ cB => ?_
   obtain ⟨fv, aX, fx, fy⟩ := fu
   refine sqv cB rfl (r_indexAddr (cB.get rfl) rfl tU26 ti_28 fv fx) fun _ cD => ?_
   obtain ⟨ao, ap, aq, ar, aa, fz, cF⟩ := fy
   refine sqv cD rfl (r_loadN Tryz.underlying28 rfl ti_28 (cD.get rfl) fz) fun _ fA => ?_
   refine sq (opk_new (fun B => .pointer (some ⟨B, 0, none⟩)) fA rfl (r_alloc (cs := [.int .i64 0, .string (Bs []), .string (Bs []), Sl.v Sl.nil, Sl.v Sl.nil]) ti_28 rfl) fun hZ cH l cI cJ cK a8 _ => ?_)
   have fB : ad ≠ l := Nat.ne_of_lt (Nat.lt_of_lt_of_le ay.lt cJ.ge)
   have cL : New r l cH := cJ
   have fC := ay.ext cI
   have fD : Chg [] r cH := cI
   refine sq (opk_store a8 cK (r_store (vs := [.int .i64 ao, .string (Bs ap), .string (Bs aq), Sl.v ar, Sl.v aa]) (a8.get rfl) (a8.get rfl) rfl ti_28 cK rfl (ones_all _ rfl)) fun h0 x a9 fF fG => ?_)
   have cM : Box x l 28 [.int .i64 ao, .string (Bs ap), .string (Bs aq), Sl.v ar, Sl.v aa] := fF
   have h1 := fC.keep a9 (by simpa using fB)
   have cN := fD.storeNew cL a9
   have cO := cL.up a9.size
   refine sq_end ?_
   have cP := fG.kp [(5, .int .i64 i), (10, pB l 0)] rfl
   refine then_normal (wp_seq (wp_seq (wp_region_lit ?_)))
   refine sqv cP rfl (r_fieldAddr (cP.get rfl) Tryz.underlying28 rfl ti_26 (by decide)) fun _ cQ => sqv cQ rfl (r_load1 tU26 rfl (cQ.get rfl) (cM.cell 4 _ rfl)) fun _ cS => sqv cS rfl (r_len (cS.get rfl) tU26) fun _ cT => sqv cT rfl (r_move (cT.get rfl)) fun _ ba => sqv ba rfl (r_neq (ba.get rfl) (ba.get rfl)) fun _ fH => sq_end ?_
   have bb := fH.kp [(5, .int .i64 i), (10, pB l 0), (74, .bool (decide ((aa.n : Int) ≠ i)))] rfl
   refine then_normal ?_
   refine wp_cond_split (bb.get rfl) (fun hc => ?_) (fun hc => ?_)
   ·have fJ := cF.1 (of_decide_eq_true hc)
    clear hc
    refine wp_seq (wp_region_lit ?_)
    refine sqv bb rfl (r_assign rfl) fun _ fK => sq_end ?_
    have cU := fK.kp [(4, .bool false)] rfl
    refine then_normal ?_
    refine wp_ret ?_
    refine then_ret ?_
    have fL := fJ x l cO  cN
    exact res_all (vs := [.bool false]) rfl cU ⟨res_of_tmp cU rfl, trivial⟩ fL
   ·have fM := cF.2 (of_decide_eq_false hc)
    clear hc
    refine wp_skip ?_
    refine then_normal (wp_seq (wp_seq (wp_region_lit ?_)))
    refine sqv bb rfl (r_assign rfl) fun _ fN => sq_end ?_
    have fO := fN.kp [(5, .int .i64 i), (10, pB l 0), (11, .int .i64 0)] rfl
    refine then_normal (wp_block ?_)
    have fP := fM x l cO  cN
    obtain ⟨au, aH, fQ, fR⟩ := fP
    refine wp_loop_st (σ := Int × World) (fun s a w => Ag 107 a [(5, .int .i64 i), (10, pB l 0), (11, .int .i64 s.1)] ∧ Box w l 28 [.int .i64 ao, .string (Bs ap), .string (Bs aq), Sl.v ar, Sl.v aa] ∧ w = s.2 ∧ au s.1 s.2) (fun s => aH s.1 s.2) (0, x) ⟨fO.kp [(5, .int .i64 i), (10, pB l 0), (11, .int .i64 0)] rfl, cM, rfl, fQ⟩ ?_
    rintro ⟨f, ab⟩ h2 w_ ⟨cY, bd, hw_, fS⟩
    have hw_ : ab = w_ := hw_.symm
    subst hw_
    have cZ := fR f _ fS
    refine wp_seq (wp_seq (wp_region_lit ?_))
    refine sqv cY rfl (r_move (cY.get rfl)) fun _ c0 => sqv c0 rfl (r_move (c0.get rfl)) fun _ bf => sqv bf rfl (r_lss (bf.get rfl) (bf.get rfl)) fun _ fT => sq_end ?_
    have aN := fT.kp [(5, .int .i64 i), (10, pB l 0), (11, .int .i64 f), (77, .bool (decide (f < i)))] rfl
    refine then_normal ?_
    refine wp_cond_split (aN.get rfl) (fun hc => ?_) (fun hc => ?_)
    ·have fU := cZ.1 (of_decide_eq_true hc)
     clear hc
     refine wp_skip ?_
     refine then_normal (wp_seq (wp_block (wp_seq (wp_region_lit ?_))))
     refine sqv aN rfl (r_fieldAddr (aN.get rfl) Tryz.underlying28 rfl ti_26 (by decide)) fun _ c1 => sqv c1 rfl (r_load1 tU26 rfl (c1.get rfl) (bd.cell 4 _ rfl)) fun _ c2 => sqv c2 rfl (r_move (c2.get rfl)) fun _ bg => ?_
     obtain ⟨fV, aY, fX, fY⟩ := fU
     refine sqv bg rfl (r_indexAddr (bg.get rfl) (bg.get rfl) tU26 ti_28 fV fX) fun _ c3 => ?_
     obtain ⟨aI, c, aJ, aK, d, fZ, f0⟩ := fY
     refine sqv c3 rfl (r_loadN Tryz.underlying28 rfl ti_28 (c3.get rfl) fZ) fun _ f1 => ?_
     refine sq (opk_new (fun B => .pointer (some ⟨B, 0, none⟩)) f1 rfl (r_alloc (cs := [.int .i64 0, .string (Bs []), .string (Bs []), Sl.v Sl.nil, Sl.v Sl.nil]) ti_28 rfl) fun h3 c4 q c5 c6 c7 bi _ => ?_)
     have f2 : l ≠ q := Nat.ne_of_lt (Nat.lt_of_lt_of_le bd.lt c6.ge)
     have c8 : New ab q c4 := c6
     have f3 := bd.ext c5
     have f4 : Chg [] ab c4 := c5
     refine sq (opk_store bi c7 (r_store (vs := [.int .i64 aI, .string (Bs c), .string (Bs aJ), Sl.v aK, Sl.v d]) (bi.get rfl) (bi.get rfl) rfl ti_28 c7 rfl (ones_all _ rfl)) fun h4 f5 bj f6 f7 => ?_)
     have f8 : Box f5 q 28 [.int .i64 aI, .string (Bs c), .string (Bs aJ), Sl.v aK, Sl.v d] := f6
     have f9 := f3.keep bj (by simpa using f2)
     have ga := f4.storeNew c8 bj
     have gc := c8.up bj.size
     refine sq_end ?_
     have m := f7.kp [(5, .int .i64 i), (10, pB l 0), (11, .int .i64 f), (12, pB q 0)] rfl
     refine then_normal (wp_seq ?_)
     refine draw' (by kernel_rfl) fun af aO => ?_
     have gd := f9.ext aO
     have aP := f8.ext aO
     have gf := ga.more aO
     have gg := gc.up aO.size
     have gh := f0 af q gg  gf
     obtain ⟨ai, c9, gj⟩ := gh
     obtain ⟨y, gm, gq⟩ := gj
     obtain ⟨gu, gG⟩ := gq
     obtain ⟨gJ, da⟩ := gG
     refine par (D := [[], [0], [0, 1], [0, 1, 2], [0, 1, 2, 3], [0, 1, 2, 3, 4], [0, 1, 2, 3, 4, 5], [0, 1, 2, 3, 4, 5, 6], [0, 1, 2, 3, 4, 5, 6, 7], [0, 1, 2, 3, 4, 5, 6, 7, 8], [0, 1, 2, 3, 4, 5, 6, 7, 8, 9], [0, 1, 2, 3, 4, 5, 6, 7, 8, 9, 10], [0, 1, 2, 3, 4, 5, 6, 7, 8, 9, 10, 11], [0, 1, 2, 3, 4, 5, 6, 7, 8, 9, 10, 11, 12], [0, 1, 2, 3, 4, 5, 6, 7, 8, 9, 10, 11, 12, 13], [0, 1, 2, 3, 4, 5, 6, 7, 8, 9], [0, 1, 2, 3, 4, 5, 6, 7, 8, 9], [0, 1, 2, 3, 4, 5, 6, 7, 8, 9, 16], [0, 1, 2, 3, 4, 5, 6, 7, 8, 9, 15, 16, 17], [0, 1, 2, 3, 4, 5, 6, 7, 8, 9, 10, 11, 12, 13, 14, 15, 16, 17, 18], [0, 1, 2, 3, 4, 5, 6, 7, 8, 9, 10, 11, 12, 13, 14, 15, 16, 17, 18, 19]]) (S := [0, 1, 2, 3, 4, 5, 6, 7, 8, 9, 10, 11, 12, 13, 14, 15, 16, 17, 18, 19, 20]) (F := []) (V := VL [(0, fun v _ => v = pB q 1), (1, fun v _ => v = .string (Bs c)), (2, fun v _ => v = .bool (decide (c ≠ ([112] : Str)))), (3, fun v _ => v = .bool (decide (c ≠ ([112] : Str)))), (4, fun v _ => v = cV (true && ((decide (c ≠ ([112] : Str))) == false)) (pB q 4)), (5, fun v _ => v = cV (true && ((decide (c ≠ ([112] : Str))) == false)) (Sl.v d)), (6, fun v _ => v = cV (true && ((decide (c ≠ ([112] : Str))) == false)) (.int .i64 (d.n : Int))), (7, fun v _ => v = cV (true && ((decide (c ≠ ([112] : Str))) == false)) (.bool (decide ((d.n : Int) ≠ 1)))), (8, fun v _ => v = .bool ((decide (c ≠ ([112] : Str))) || (decide ((d.n : Int) ≠ 1)))), (9, fun v _ => v = .bool ((decide (c ≠ ([112] : Str))) || (decide ((d.n : Int) ≠ 1)))), (10, fun v _ => v = cV (true && (((decide (c ≠ ([112] : Str))) || (decide ((d.n : Int) ≠ 1))) == false)) (pB q 4)), (11, fun v _ => v = cV (true && (((decide (c ≠ ([112] : Str))) || (decide ((d.n : Int) ≠ 1))) == false)) (Sl.v d)), (12, fun v _ => v = cV (true && (((decide (c ≠ ([112] : Str))) || (decide ((d.n : Int) ≠ 1))) == false)) (.pointer (some (ai.add (0 * 5))))), (13, fun v _ => v = cV (true && (((decide (c ≠ ([112] : Str))) || (decide ((d.n : Int) ≠ 1))) == false)) (.pointer (some ((ai.add (0 * 5)).add 2)))), (14, fun v _ => v = cV (true && (((decide (c ≠ ([112] : Str))) || (decide ((d.n : Int) ≠ 1))) == false)) (.string (Bs y))), (15, fun v _ => v = cV (true && (((decide (c ≠ ([112] : Str))) || (decide ((d.n : Int) ≠ 1))) == false)) (.int .i64 f)), (16, fun v _ => v = cV (true && (((decide (c ≠ ([112] : Str))) || (decide ((d.n : Int) ≠ 1))) == false)) (.int .i64 f)), (17, fun v _ => v = cV (true && (((decide (c ≠ ([112] : Str))) || (decide ((d.n : Int) ≠ 1))) == false)) (.int .i64 (f + 1))), (18, fun v _ => v = cV (true && (((decide (c ≠ ([112] : Str))) || (decide ((d.n : Int) ≠ 1))) == false)) (.string (Bs ((List.drop f.toNat ([97, 98, 99, 100, 101, 102, 103, 104, 105, 106, 107, 108, 109, 110, 111, 112, 113, 114, 115, 116] : Str)).take ((f + 1).toNat - f.toNat))))), (19, fun v _ => v = cV (true && (((decide (c ≠ ([112] : Str))) || (decide ((d.n : Int) ≠ 1))) == false)) (.bool (decide (y ≠ ((List.drop f.toNat ([97, 98, 99, 100, 101, 102, 103, 104, 105, 106, 107, 108, 109, 110, 111, 112, 113, 114, 115, 116] : Str)).take ((f + 1).toNat - f.toNat)))))), (20, fun v _ => v = .bool (((decide (c ≠ ([112] : Str))) || (decide ((d.n : Int) ≠ 1))) || (decide (y ≠ ((List.drop f.toNat ([97, 98, 99, 100, 101, 102, 103, 104, 105, 106, 107, 108, 109, 110, 111, 112, 113, 114, 115, 116] : Str)).take ((f + 1).toNat - f.toNat))))))]) m (by kernel_rfl) ⟨fun _ _ _ _ h => h, fun _ _ _ _ h => h, fun _ _ _ _ h => h, fun _ _ _ _ h => h, fun _ _ _ _ h => h, fun _ _ _ _ h => h, fun _ _ _ _ h => h, fun _ _ _ _ h => h, fun _ _ _ _ h => h, fun _ _ _ _ h => h, fun _ _ _ _ h => h, fun _ _ _ _ h => h, fun _ _ _ _ h => h, fun _ _ _ _ h => h, fun _ _ _ _ h => h, fun _ _ _ _ h => h, fun _ _ _ _ h => h, fun _ _ _ _ h => h, fun _ _ _ _ h => h, fun _ _ _ _ h => h, fun _ _ _ _ h => h, trivial⟩ ⟨?_, ?_, ?_, ?_, ?_, ?_, ?_, ?_, ?_, ?_, ?_, ?_, ?_, ?_, ?_, ?_, ?_, ?_, ?_, ?_, ?_, trivial⟩ ?_
     ·intro a w hT
      have hAp := hT.ag m [(12, pB q 0)] ⟨rfl, trivial⟩ (by kernel_rfl)
      exact ovr hAp rfl (r_fieldAddr (hAp.get rfl) Tryz.underlying28 rfl ti_9 (by decide)) fun _ => Eq.refl _
     ·intro a w hT
      have hAp := hT.ag m [] trivial (by kernel_rfl)
      have hAp := hAp.add (t := 85) (v := pB q 1) (hT.vals 0 rfl 85 rfl)
      exact ovr hAp rfl (r_load1 tU9 rfl (hAp.get rfl) ((aP.ext hT.chg).cell 1 _ rfl)) fun _ => Eq.refl _
     ·intro a w hT
      have hAp := hT.ag m [] trivial (by kernel_rfl)
      have hAp := hAp.add (t := 86) (v := .string (Bs c)) (hT.vals 1 rfl 86 rfl)
      exact ovr hAp rfl (r_sneq (hAp.get rfl) rfl) fun _ => Eq.refl _
     ·intro a w hT
      have hAp := hT.ag m [] trivial (by kernel_rfl)
      have hAp := hAp.add (t := 87) (v := .bool (decide (c ≠ ([112] : Str)))) (hT.vals 2 rfl 87 rfl)
      exact ovr hAp rfl (r_move (hAp.get rfl)) fun _ => Eq.refl _
     ·intro a w hT
      have hAp := hT.ag m [(12, pB q 0)] ⟨rfl, trivial⟩ (by kernel_rfl)
      have hAp := hAp.add (t := 88) (v := .bool (decide (c ≠ ([112] : Str)))) (hT.vals 3 rfl 88 rfl)
      exact opk_gval hAp rfl rfl (g := true) (e := (decide (c ≠ ([112] : Str)))) rfl (fun hg => r_fieldAddr (hAp.get rfl) Tryz.underlying28 rfl ti_26 (by decide)) fun _ _ e => ⟨_, e, Chg.refl _ _, fun _ => Eq.refl _⟩
     ·intro a w hT
      have hAp := hT.ag m [] trivial (by kernel_rfl)
      have hAp := hAp.add (t := 88) (v := .bool (decide (c ≠ ([112] : Str)))) (hT.vals 3 rfl 88 rfl)
      have hAp := hAp.add (t := 89) (v := cV (true && ((decide (c ≠ ([112] : Str))) == false)) (pB q 4)) (hT.vals 4 rfl 89 rfl)
      exact opk_gval hAp rfl rfl (g := true) (e := (decide (c ≠ ([112] : Str)))) rfl (fun hg => r_load1 tU26 rfl (cv_get (hAp.get rfl) hg) ((aP.ext hT.chg).cell 4 _ rfl)) fun _ _ e => ⟨_, e, Chg.refl _ _, fun _ => Eq.refl _⟩
     ·intro a w hT
      have hAp := hT.ag m [] trivial (by kernel_rfl)
      have hAp := hAp.add (t := 88) (v := .bool (decide (c ≠ ([112] : Str)))) (hT.vals 3 rfl 88 rfl)
      have hAp := hAp.add (t := 90) (v := cV (true && ((decide (c ≠ ([112] : Str))) == false)) (Sl.v d)) (hT.vals 5 rfl 90 rfl)
      exact opk_gval hAp rfl rfl (g := true) (e := (decide (c ≠ ([112] : Str)))) rfl (fun hg => r_len (cv_get (hAp.get rfl) hg) tU26) fun _ _ e => ⟨_, e, Chg.refl _ _, fun _ => Eq.refl _⟩
     ·intro a w hT
      have hAp := hT.ag m [] trivial (by kernel_rfl)
      have hAp := hAp.add (t := 88) (v := .bool (decide (c ≠ ([112] : Str)))) (hT.vals 3 rfl 88 rfl)
      have hAp := hAp.add (t := 91) (v := cV (true && ((decide (c ≠ ([112] : Str))) == false)) (.int .i64 (d.n : Int))) (hT.vals 6 rfl 91 rfl)
      exact opk_gval hAp rfl rfl (g := true) (e := (decide (c ≠ ([112] : Str)))) rfl (fun hg => r_neq (cv_get (hAp.get rfl) hg) rfl) fun _ _ e => ⟨_, e, Chg.refl _ _, fun _ => Eq.refl _⟩
     ·intro a w hT
      have hAp := hT.ag m [] trivial (by kernel_rfl)
      have hAp := hAp.add (t := 88) (v := .bool (decide (c ≠ ([112] : Str)))) (hT.vals 3 rfl 88 rfl)
      have hAp := hAp.add (t := 92) (v := cV (true && ((decide (c ≠ ([112] : Str))) == false)) (.bool (decide ((d.n : Int) ≠ 1)))) (hT.vals 7 rfl 92 rfl)
      exact ovr hAp rfl (r_pick_or (g := (true && ((decide (c ≠ ([112] : Str))) == false))) (hAp.get rfl) (hAp.get rfl) (fun he => g_mkf rfl he)) fun _ => Eq.refl _
     ·intro a w hT
      have hAp := hT.ag m [] trivial (by kernel_rfl)
      have hAp := hAp.add (t := 93) (v := .bool ((decide (c ≠ ([112] : Str))) || (decide ((d.n : Int) ≠ 1)))) (hT.vals 8 rfl 93 rfl)
      exact ovr hAp rfl (r_move (hAp.get rfl)) fun _ => Eq.refl _
     ·intro a w hT
      have hAp := hT.ag m [(12, pB q 0)] ⟨rfl, trivial⟩ (by kernel_rfl)
      have hAp := hAp.add (t := 94) (v := .bool ((decide (c ≠ ([112] : Str))) || (decide ((d.n : Int) ≠ 1)))) (hT.vals 9 rfl 94 rfl)
      exact opk_gval hAp rfl rfl (g := true) (e := ((decide (c ≠ ([112] : Str))) || (decide ((d.n : Int) ≠ 1)))) rfl (fun hg => r_fieldAddr (hAp.get rfl) Tryz.underlying28 rfl ti_26 (by decide)) fun _ _ e => ⟨_, e, Chg.refl _ _, fun _ => Eq.refl _⟩
     ·intro a w hT
      have hAp := hT.ag m [] trivial (by kernel_rfl)
      have hAp := hAp.add (t := 94) (v := .bool ((decide (c ≠ ([112] : Str))) || (decide ((d.n : Int) ≠ 1)))) (hT.vals 9 rfl 94 rfl)
      have hAp := hAp.add (t := 95) (v := cV (true && (((decide (c ≠ ([112] : Str))) || (decide ((d.n : Int) ≠ 1))) == false)) (pB q 4)) (hT.vals 10 rfl 95 rfl)
      exact opk_gval hAp rfl rfl (g := true) (e := ((decide (c ≠ ([112] : Str))) || (decide ((d.n : Int) ≠ 1)))) rfl (fun hg => r_load1 tU26 rfl (cv_get (hAp.get rfl) hg) ((aP.ext hT.chg).cell 4 _ rfl)) fun _ _ e => ⟨_, e, Chg.refl _ _, fun _ => Eq.refl _⟩
     ·intro a w hT
      have hAp := hT.ag m [] trivial (by kernel_rfl)
      have hAp := hAp.add (t := 94) (v := .bool ((decide (c ≠ ([112] : Str))) || (decide ((d.n : Int) ≠ 1)))) (hT.vals 9 rfl 94 rfl)
      have hAp := hAp.add (t := 96) (v := cV (true && (((decide (c ≠ ([112] : Str))) || (decide ((d.n : Int) ≠ 1))) == false)) (Sl.v d)) (hT.vals 11 rfl 96 rfl)
      exact opk_gval hAp rfl rfl (g := true) (e := ((decide (c ≠ ([112] : Str))) || (decide ((d.n : Int) ≠ 1)))) rfl (fun hg => r_indexAddr (cv_get (hAp.get rfl) hg) rfl tU26 ti_28 (c9 ⟨(of_decide_eq_false (b_or_f (g_f hg)).1), (of_decide_eq_false (b_or_f (g_f hg)).2)⟩).1 (c9 ⟨(of_decide_eq_false (b_or_f (g_f hg)).1), (of_decide_eq_false (b_or_f (g_f hg)).2)⟩).2) fun _ _ e => ⟨_, e, Chg.refl _ _, fun _ => Eq.refl _⟩
     ·intro a w hT
      have hAp := hT.ag m [] trivial (by kernel_rfl)
      have hAp := hAp.add (t := 94) (v := .bool ((decide (c ≠ ([112] : Str))) || (decide ((d.n : Int) ≠ 1)))) (hT.vals 9 rfl 94 rfl)
      have hAp := hAp.add (t := 97) (v := cV (true && (((decide (c ≠ ([112] : Str))) || (decide ((d.n : Int) ≠ 1))) == false)) (.pointer (some (ai.add (0 * 5))))) (hT.vals 12 rfl 97 rfl)
      exact opk_gval hAp rfl rfl (g := true) (e := ((decide (c ≠ ([112] : Str))) || (decide ((d.n : Int) ≠ 1)))) rfl (fun hg => r_fieldAddr (cv_get (hAp.get rfl) hg) Tryz.underlying28 rfl ti_9 (by decide)) fun _ _ e => ⟨_, e, Chg.refl _ _, fun _ => Eq.refl _⟩
     ·intro a w hT
      have hAp := hT.ag m [] trivial (by kernel_rfl)
      have hAp := hAp.add (t := 94) (v := .bool ((decide (c ≠ ([112] : Str))) || (decide ((d.n : Int) ≠ 1)))) (hT.vals 9 rfl 94 rfl)
      have hAp := hAp.add (t := 98) (v := cV (true && (((decide (c ≠ ([112] : Str))) || (decide ((d.n : Int) ≠ 1))) == false)) (.pointer (some ((ai.add (0 * 5)).add 2)))) (hT.vals 13 rfl 98 rfl)
      exact opk_gval hAp rfl rfl (g := true) (e := ((decide (c ≠ ([112] : Str))) || (decide ((d.n : Int) ≠ 1)))) rfl (fun hg => r_load1 tU9 rfl (cv_get (hAp.get rfl) hg) (Ext.cell hT.chg (gm ⟨(of_decide_eq_false (b_or_f (g_f hg)).1), (of_decide_eq_false (b_or_f (g_f hg)).2)⟩))) fun _ _ e => ⟨_, e, Chg.refl _ _, fun _ => Eq.refl _⟩
     ·intro a w hT
      have hAp := hT.ag m [(11, .int .i64 f)] ⟨rfl, trivial⟩ (by kernel_rfl)
      have hAp := hAp.add (t := 94) (v := .bool ((decide (c ≠ ([112] : Str))) || (decide ((d.n : Int) ≠ 1)))) (hT.vals 9 rfl 94 rfl)
      exact opk_gval hAp rfl rfl (g := true) (e := ((decide (c ≠ ([112] : Str))) || (decide ((d.n : Int) ≠ 1)))) rfl (fun hg => r_move (hAp.get rfl)) fun _ _ e => ⟨_, e, Chg.refl _ _, fun _ => Eq.refl _⟩
     ·intro a w hT
      have hAp := hT.ag m [(11, .int .i64 f)] ⟨rfl, trivial⟩ (by kernel_rfl)
      have hAp := hAp.add (t := 94) (v := .bool ((decide (c ≠ ([112] : Str))) || (decide ((d.n : Int) ≠ 1)))) (hT.vals 9 rfl 94 rfl)
      exact opk_gval hAp rfl rfl (g := true) (e := ((decide (c ≠ ([112] : Str))) || (decide ((d.n : Int) ≠ 1)))) rfl (fun hg => r_move (hAp.get rfl)) fun _ _ e => ⟨_, e, Chg.refl _ _, fun _ => Eq.refl _⟩
     ·intro a w hT
      have hAp := hT.ag m [] trivial (by kernel_rfl)
      have hAp := hAp.add (t := 94) (v := .bool ((decide (c ≠ ([112] : Str))) || (decide ((d.n : Int) ≠ 1)))) (hT.vals 9 rfl 94 rfl)
      have hAp := hAp.add (t := 101) (v := cV (true && (((decide (c ≠ ([112] : Str))) || (decide ((d.n : Int) ≠ 1))) == false)) (.int .i64 f)) (hT.vals 16 rfl 101 rfl)
      exact opk_gval hAp rfl rfl (g := true) (e := ((decide (c ≠ ([112] : Str))) || (decide ((d.n : Int) ≠ 1)))) rfl (fun hg => r_addI (cv_get (hAp.get rfl) hg) rfl (gu ⟨(of_decide_eq_false (b_or_f (g_f hg)).1), (of_decide_eq_false (b_or_f (g_f hg)).2)⟩)) fun _ _ e => ⟨_, e, Chg.refl _ _, fun _ => Eq.refl _⟩
     ·intro a w hT
      have hAp := hT.ag m [] trivial (by kernel_rfl)
      have hAp := hAp.add (t := 94) (v := .bool ((decide (c ≠ ([112] : Str))) || (decide ((d.n : Int) ≠ 1)))) (hT.vals 9 rfl 94 rfl)
      have hAp := hAp.add (t := 100) (v := cV (true && (((decide (c ≠ ([112] : Str))) || (decide ((d.n : Int) ≠ 1))) == false)) (.int .i64 f)) (hT.vals 15 rfl 100 rfl)
      have hAp := hAp.add (t := 102) (v := cV (true && (((decide (c ≠ ([112] : Str))) || (decide ((d.n : Int) ≠ 1))) == false)) (.int .i64 (f + 1))) (hT.vals 17 rfl 102 rfl)
      exact opk_gval hAp rfl rfl (g := true) (e := ((decide (c ≠ ([112] : Str))) || (decide ((d.n : Int) ≠ 1)))) rfl (fun hg => r_sslice2 rfl (cv_get (hAp.get rfl) hg) (cv_get (hAp.get rfl) hg) tU9 (gJ ⟨(of_decide_eq_false (b_or_f (g_f hg)).1), (of_decide_eq_false (b_or_f (g_f hg)).2)⟩)) fun _ _ e => ⟨_, e, Chg.refl _ _, fun _ => Eq.refl _⟩
     ·intro a w hT
      have hAp := hT.ag m [] trivial (by kernel_rfl)
      have hAp := hAp.add (t := 94) (v := .bool ((decide (c ≠ ([112] : Str))) || (decide ((d.n : Int) ≠ 1)))) (hT.vals 9 rfl 94 rfl)
      have hAp := hAp.add (t := 99) (v := cV (true && (((decide (c ≠ ([112] : Str))) || (decide ((d.n : Int) ≠ 1))) == false)) (.string (Bs y))) (hT.vals 14 rfl 99 rfl)
      have hAp := hAp.add (t := 103) (v := cV (true && (((decide (c ≠ ([112] : Str))) || (decide ((d.n : Int) ≠ 1))) == false)) (.string (Bs ((List.drop f.toNat ([97, 98, 99, 100, 101, 102, 103, 104, 105, 106, 107, 108, 109, 110, 111, 112, 113, 114, 115, 116] : Str)).take ((f + 1).toNat - f.toNat))))) (hT.vals 18 rfl 103 rfl)
      exact opk_gval hAp rfl rfl (g := true) (e := ((decide (c ≠ ([112] : Str))) || (decide ((d.n : Int) ≠ 1)))) rfl (fun hg => r_sneq (cv_get (hAp.get rfl) hg) (cv_get (hAp.get rfl) hg)) fun _ _ e => ⟨_, e, Chg.refl _ _, fun _ => Eq.refl _⟩
     ·intro a w hT
      have hAp := hT.ag m [] trivial (by kernel_rfl)
      have hAp := hAp.add (t := 94) (v := .bool ((decide (c ≠ ([112] : Str))) || (decide ((d.n : Int) ≠ 1)))) (hT.vals 9 rfl 94 rfl)
      have hAp := hAp.add (t := 104) (v := cV (true && (((decide (c ≠ ([112] : Str))) || (decide ((d.n : Int) ≠ 1))) == false)) (.bool (decide (y ≠ ((List.drop f.toNat ([97, 98, 99, 100, 101, 102, 103, 104, 105, 106, 107, 108, 109, 110, 111, 112, 113, 114, 115, 116] : Str)).take ((f + 1).toNat - f.toNat)))))) (hT.vals 19 rfl 104 rfl)
      exact ovr hAp rfl (r_pick_or (g := (true && (((decide (c ≠ ([112] : Str))) || (decide ((d.n : Int) ≠ 1))) == false))) (hAp.get rfl) (hAp.get rfl) (fun he => g_mkf rfl he)) fun _ => Eq.refl _
     ·intro gU z bk gY g0
      have g4 := gY [(5, .int .i64 i), (10, pB l 0), (11, .int .i64 f)] ⟨rfl, rfl, rfl, trivial⟩ (by kernel_rfl)
      have g5 : gU.tmps.getD 105 undef = .bool (((decide (c ≠ ([112] : Str))) || (decide ((d.n : Int) ≠ 1))) || (decide (y ≠ ((List.drop f.toNat ([97, 98, 99, 100, 101, 102, 103, 104, 105, 106, 107, 108, 109, 110, 111, 112, 113, 114, 115, 116] : Str)).take ((f + 1).toNat - f.toNat))))) := g0 20 rfl 105 rfl
      have g6 := g4.add g5
      have g7 := gd.ext bk
      have h5 := aP.ext bk
      have db : Chg [] af z := bk
      refine PR_end (by kernel_rfl) ?_
      have aQ := g6.kp [(5, .int .i64 i), (10, pB l 0), (11, .int .i64 f), (105, .bool (((decide (c ≠ ([112] : Str))) || (decide ((d.n : Int) ≠ 1))) || (decide (y ≠ ((List.drop f.toNat ([97, 98, 99, 100, 101, 102, 103, 104, 105, 106, 107, 108, 109, 110, 111, 112, 113, 114, 115, 116] : Str)).take ((f + 1).toNat - f.toNat))))))] rfl
      refine then_normal ?_
      refine wp_cond_split (aQ.get rfl) (fun hc => ?_) (fun hc => ?_)
      ·have g8 := da.1 ((b_or_t hc).imp (fun h => ((b_or_t h).imp (fun h => (of_decide_eq_true h)) (fun h => (of_decide_eq_true h)))) (fun h => (of_decide_eq_true h)))
       clear hc
       refine wp_seq (wp_region_lit ?_)
       refine sqv aQ rfl (r_assign rfl) fun _ g9 => sq_end ?_
       have dc := g9.kp [(4, .bool false)] rfl
       refine then_normal ?_
       refine wp_ret ?_
       refine block_ret ?_
       refine then_ret ?_
       refine then_ret ?_
       refine block_ret ?_
       refine then_ret ?_
       have ha := g8 z    db
       exact res_all (vs := [.bool false]) rfl dc ⟨res_of_tmp dc rfl, trivial⟩ ha
      ·have hb := da.2 ⟨⟨(of_decide_eq_false (b_or_f (b_or_f hc).1).1), (of_decide_eq_false (b_or_f (b_or_f hc).1).2)⟩, (of_decide_eq_false (b_or_f hc).2)⟩
       clear hc
       refine wp_skip ?_
       refine block_normal ?_
       refine then_normal (wp_region_lit ?_)
       refine sqv aQ rfl (r_move (aQ.get rfl)) fun _ dd => ?_
       obtain ⟨hd, hf⟩ := hb
       refine sqv dd rfl (r_addI (dd.get rfl) rfl hd) fun _ df => sqv df rfl (r_assign (df.get rfl)) fun _ hh => sq_end ?_
       have hi := hh.kp [(5, .int .i64 i), (10, pB l 0), (11, .int .i64 (f + 1))] rfl
       have dg := hf z    db
       have hj := hi.kp [(5, .int .i64 i), (10, pB l 0), (11, .int .i64 (f + 1))] rfl
       exact then_normal ⟨(f + 1, z), ⟨hj, g7, rfl, dg.1⟩, dg.2⟩
    ·have hk := cZ.2 (of_decide_eq_false hc)
     clear hc
     refine wp_exit ?_
     refine then_exit ?_
     refine then_exit ?_
     refine block_hit ?_
     have hl := aN.kp [] rfl
     refine then_normal (wp_seq (wp_region_lit ?_))
     refine sq (opk_call hl rfl (r_call (args := #[]) Tryz.func10 (by decide) rfl (map_arr ml_nil) rfl) hk fun h6 h7 bp dh _ h8 h9 hm => ?_)
     obtain ⟨av, rfl, hn⟩ := hm
     refine sqv dh rfl (r_assign (dh.get rfl)) fun _ ho => sq_end ?_
     have di := ho.kp [(4, .bool av)] rfl
     refine then_normal ?_
     refine wp_ret ?_
     exact res_all (vs := [.bool av]) rfl di ⟨res_of_tmp di rfl, trivial⟩ hn
end Go.Proofs.YtenokfdkckhhiaaGreatDoor
