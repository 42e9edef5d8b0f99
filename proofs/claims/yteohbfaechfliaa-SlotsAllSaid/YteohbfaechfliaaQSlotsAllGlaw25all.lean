/-
  PRINTED BY PROGRAM: for each function its condition (vc), and that this suffices (ok).
-/
import Derived.Test.YteohbfaechfliaaQSlotsAllGT
namespace Go.Proofs.Yteohbfaechfliaa
open Go.RowKit
set_option linter.unusedVariables false
set_option maxHeartbeats 1000000
set_option maxRecDepth 10000
def law25_all.vc (m : Int) (o : Str) (p : Str) (q : Sl) (r : Sl) (i : Sl) (k : Addr) (f : Int) (R : Value → World → Prop) (w : World) : Prop :=
∀ (w6 : World) (z : Nat), New w z w6 → Chg [] w w6 →
∃ (aH : Sl), (w6.cell? (k.add 3) = some (Sl.v aH)) ∧
(((i.n : Int) ≠ (aH.n : Int)) →
R (.bool false) w6) ∧
((¬ ((i.n : Int) ≠ (aH.n : Int))) →
∃ (aI : Int → World → Prop) (aN : Int → World → Nat),
aI 0 w6 ∧
(∀ (j : Int) (ai : World), aI j ai →
((j < (i.n : Int)) →
∀ (y : World), Chg [] ai y →
∃ aJ : Addr, (((0 : Int) ≤ j ∧ j < (i.n : Int)) ∧ i.a = some aJ) ∧
∃ (am : Bool) (an : Bool) (ao : Sl) (ap : Sl) (aq : Int) (ar : Sl), (Cells y (aJ.add (j.toNat * 6)) [.bool am, .bool an, Sl.v ao, Sl.v ap, .int .i64 aq, Sl.v ar]) ∧
∃ (au : Sl), (y.cell? (k.add 3) = some (Sl.v au)) ∧
∃ aK : Addr, (((0 : Int) ≤ j ∧ j < (au.n : Int)) ∧ au.a = some aK) ∧
∃ (av : Bool) (ax : Bool) (ay : Sl) (az : Sl) (aA : Int) (aB : Sl), (Cells y (aK.add (j.toNat * 6)) [.bool av, .bool ax, Sl.v ay, Sl.v az, .int .i64 aA, Sl.v aB]) ∧
∃ (b : Bool), (∀ w' : World, Ext y w' → Calls Try.prog 47 #[.agg #[.bool am, .bool an, Sl.v ao, Sl.v ap, .int .i64 aq, Sl.v ar], .agg #[.bool av, .bool ax, Sl.v ay, Sl.v az, .int .i64 aA, Sl.v aB]] w' (Ret fun v w'' => Ext w' w'' ∧ v = .bool b)) ∧
∃ (c : Bool), (((b = true)) → ∀ w' : World, Ext y w' → Calls Try.prog 16 #[.agg #[.int .i64 m, .string (Bs o), .string (Bs p), Sl.v q, Sl.v r], Sl.v i, .int .i64 j] w' (Ret fun v w'' => Ext w' w'' ∧ v = .bool c)) ∧
∃ (aC : Sl), (((b = true)) → y.cell? (k.add 0) = some (Sl.v aC)) ∧
∃ (aD : Sl), (((b = true)) → y.cell? (k.add 3) = some (Sl.v aD)) ∧
∃ (d : Bool), (((b = true)) → ∀ w' : World, Ext y w' → Calls Try.prog 48 #[Sl.v aC, Sl.v aD, .int .i64 j] w' (Ret fun v w'' => Ext w' w'' ∧ v = .bool d)) ∧
∃ ak : Sl → World → Prop, (∀ u : Sl, ∀ w' w'' : World, Ext w' w'' → ak u w' → ak u w'') ∧
((((b = true) ∧ ((c == d) = true))) → ∀ w' : World, Ext y w' → Calls Try.prog 24 #[.agg #[.int .i64 m, .string (Bs o), .string (Bs p), Sl.v q, Sl.v r], .int .i64 j] w' (Ret fun v w'' => Ext w' w'' ∧ ∃ u : Sl, v = Sl.v u ∧ ak u w'')) ∧
∃ (aF : Sl), ((((b = true) ∧ ((c == d) = true))) → y.cell? (k.add 0) = some (Sl.v aF)) ∧
∃ al : Sl → World → Prop, (∀ x : Sl, ∀ w' w'' : World, Ext w' w'' → al x w' → al x w'') ∧
((((b = true) ∧ ((c == d) = true))) → ∀ w' : World, Ext y w' → Calls Try.prog 17 #[Sl.v aF, .int .i64 j] w' (Ret fun v w'' => Ext w' w'' ∧ ∃ x : Sl, v = Sl.v x ∧ al x w'')) ∧
∃ (ab : Bool), ((((b = true) ∧ ((c == d) = true))) → ∀ u : Sl, ∀ x : Sl, ∀ w' : World, Ext y w' → ((((b = true) ∧ ((c == d) = true))) → ak u w') → ((((b = true) ∧ ((c == d) = true))) → al x w') → Calls Try.prog 23 #[Sl.v u, Sl.v x] w' (Ret fun v w'' => Ext w' w'' ∧ v = .bool ab)) ∧
((((b = false) ∨ ((c == d) = false)) ∨ (ab = false)) →
∀ (ad : World), Chg [] y ad →
R (.bool false) ad) ∧
((((b = true) ∧ ((c == d) = true)) ∧ (ab = true)) →
(I64 (j + 1)) ∧
∀ (ad : World), Chg [] y ad →
aI (j + 1) ad ∧ aN (j + 1) ad < aN j ai)) ∧
((¬ (j < (i.n : Int))) →
∃ (aa : Bool), ((((¬ (0 ≤ f)) ∨ (¬ (f < (i.n : Int))))) → Calls Try.prog 16 #[.agg #[.int .i64 m, .string (Bs o), .string (Bs p), Sl.v q, Sl.v r], Sl.v i, .int .i64 f] ai (Ret fun v w' => Ext ai w' ∧ v = .bool aa)) ∧
(∀ aj : World, Ext ai aj →
∃ aO : Sl → World → Prop, ((((¬ (0 ≤ f)) ∨ (¬ (f < (i.n : Int)))) ∧ (aa = false)) → Calls Try.prog 24 #[.agg #[.int .i64 m, .string (Bs o), .string (Bs p), Sl.v q, Sl.v r], .int .i64 f] aj (Ret fun v w' => Ext aj w' ∧ ∃ af : Sl, v = Sl.v af ∧ aO af w')) ∧
(∀ (af : Sl) (aG : World), Ext aj aG → ((((¬ (0 ≤ f)) ∨ (¬ (f < (i.n : Int)))) ∧ (aa = false)) → aO af aG) →
R (.bool (((decide (0 ≤ f)) && (decide (f < (i.n : Int)))) || ((!aa) && (decide ((af.n : Int) = 0))))) aG)))))
theorem law25_all.ok (m : Int) (o : Str) (p : Str) (q : Sl) (r : Sl) (i : Sl) (k : Addr) (f : Int) {R : Value → World → Prop} {w : World} (a5 : law25_all.vc m o p q r i k f R w) : Calls Try.prog 22 #[.agg #[.int .i64 m, .string (Bs o), .string (Bs p), Sl.v q, Sl.v r], Sl.v i, .pointer (some k), .int .i64 f] w (Ret R) := by
 refine enter [.agg #[.int .i64 m, .string (Bs o), .string (Bs p), Sl.v q, Sl.v r], Sl.v i, .pointer (some k), .int .i64 f] Try.func22 rfl Try.ntmps22 rfl ?_
 intro a0 a6
 unfold law25_all.vc at a5
 refine wp_seq (wp_region_lit ?_)
 refine sq (opk_new (fun B => .pointer (some ⟨B, 0, none⟩)) a6 rfl (r_box (cs := [.int .i64 m, .string (Bs o), .string (Bs p), Sl.v q, Sl.v r]) (a6.get rfl) rfl) fun a7 w6 z bR bS bT bU _ => ?_)
 have bV : New w z w6 := bS
 have bX : Chg [] w w6 := bR
 refine sqv bU rfl (r_assign rfl) fun _ bY => sq_end ?_
 have hA14 := bY.kp [(1, Sl.v i), (2, .pointer (some k)), (3, .int .i64 f), (4, pB z 0)] rfl
 refine then_normal (wp_seq (wp_seq (wp_region_lit ?_)))
 refine sqv hA14 rfl (r_move (hA14.get rfl)) fun _ a8 => sqv a8 rfl (r_len (a8.get rfl) tU33) fun _ a9 => sqv a9 rfl (r_move (a9.get rfl)) fun _ ba => sqv ba rfl (r_nilCheck (ba.get rfl)) fun _ bb => sqv bb rfl (r_fieldAddr (bb.get rfl) Try.underlying91 rfl ti_89 (by decide)) fun _ bd => ?_
 have bZ := a5 w6 z bV  bX
 obtain ⟨aH, b0, bf⟩ := bZ
 refine sqv bd rfl (r_load1 tU89 rfl (bd.get rfl) b0) fun _ bg => sqv bg rfl (r_len (bg.get rfl) tU89) fun _ aR => sqv aR rfl (r_neq (aR.get rfl) (aR.get rfl)) fun _ b1 => sq_end ?_
 have aS := b1.kp [(1, Sl.v i), (2, .pointer (some k)), (3, .int .i64 f), (4, pB z 0), (17, .bool (decide ((i.n : Int) ≠ (aH.n : Int))))] rfl
 refine then_normal ?_
 refine wp_cond_split (aS.get rfl) (fun hc => ?_) (fun hc => ?_)
 ·have b2 := bf.1 (of_decide_eq_true hc)
  clear hc
  refine wp_seq (wp_region_lit ?_)
  refine sqv aS rfl (r_assign rfl) fun _ b3 => sq_end ?_
  have bh := b3.kp [(8, .bool false)] rfl
  refine then_normal ?_
  refine wp_ret ?_
  refine then_ret ?_
  exact res_all (vs := [.bool false]) rfl bh ⟨res_of_tmp bh rfl, trivial⟩ b2
 ·have b4 := bf.2 (of_decide_eq_false hc)
  clear hc
  refine wp_skip ?_
  refine then_normal (wp_seq (wp_seq (wp_region_lit ?_)))
  refine sqv aS rfl (r_assign rfl) fun _ b5 => sq_end ?_
  have b6 := b5.kp [(1, Sl.v i), (2, .pointer (some k)), (3, .int .i64 f), (4, pB z 0), (9, .int .i64 0)] rfl
  refine then_normal (wp_block ?_)
  obtain ⟨aI, aN, b7, b8⟩ := b4
  refine wp_loop_st (σ := Int × World) (fun s a w => Ag 89 a [(1, Sl.v i), (2, .pointer (some k)), (3, .int .i64 f), (4, pB z 0), (9, .int .i64 s.1)] ∧ Box w z 26 [.int .i64 m, .string (Bs o), .string (Bs p), Sl.v q, Sl.v r] ∧ w = s.2 ∧ aI s.1 s.2) (fun s => aN s.1 s.2) (0, w6) ⟨b6.kp [(1, Sl.v i), (2, .pointer (some k)), (3, .int .i64 f), (4, pB z 0), (9, .int .i64 0)] rfl, bT, rfl, b7⟩ ?_
  rintro ⟨j, ai⟩ dj w_ ⟨bi, aT, hw_, b9⟩
  have hw_ : ai = w_ := hw_.symm
  subst hw_
  have bj := b8 j _ b9
  refine wp_seq (wp_seq (wp_region_lit ?_))
  refine sqv bi rfl (r_move (bi.get rfl)) fun _ bk => sqv bk rfl (r_move (bk.get rfl)) fun _ bl => sqv bl rfl (r_len (bl.get rfl) tU33) fun _ aU => sqv aU rfl (r_lss (aU.get rfl) (aU.get rfl)) fun _ ca => sq_end ?_
  have l := ca.kp [(1, Sl.v i), (2, .pointer (some k)), (3, .int .i64 f), (4, pB z 0), (9, .int .i64 j), (21, .bool (decide (j < (i.n : Int))))] rfl
  refine then_normal ?_
  refine wp_cond_split (l.get rfl) (fun hc => ?_) (fun hc => ?_)
  ·have cb := bj.1 (of_decide_eq_true hc)
   clear hc
   refine wp_skip ?_
   refine then_normal (wp_seq (wp_block (wp_seq ?_)))
   refine draw' (by kernel_rfl) fun y bm => ?_
   have aV := aT.ext bm
   have cc : Chg [] ai y := bm
   have cd := cb y    cc
   obtain ⟨aJ, bn, cf⟩ := cd
   obtain ⟨am, an, ao, ap, aq, ar, cg, ch⟩ := cf
   obtain ⟨au, ci, cj⟩ := ch
   obtain ⟨aK, bo, ck⟩ := cj
   obtain ⟨av, ax, ay, az, aA, aB, cl, cm⟩ := ck
   obtain ⟨b, cn, co⟩ := cm
   obtain ⟨c, cp, cq⟩ := co
   obtain ⟨aC, cr, ct⟩ := cq
   obtain ⟨aD, cu, cv⟩ := ct
   obtain ⟨d, cx, cy⟩ := cv
   obtain ⟨ak, cz, cA, cB⟩ := cy
   obtain ⟨aF, cC, cD⟩ := cB
   obtain ⟨al, cF, cG, cH⟩ := cD
   obtain ⟨ab, cI, bp⟩ := cH
   refine par (D := [[], [], [0, 1], [0, 1, 2], [], [4], [4, 5], [4, 5, 6], [], [4, 5, 6, 7, 8], [4, 5, 6, 7, 8, 9], [0, 1, 2, 3, 4, 5, 6, 7, 8, 9, 10], [0, 1, 2, 3, 4, 5, 6, 7, 8, 9, 10, 11], [0, 1, 2, 3, 4, 5, 6, 7, 8, 9, 10, 11, 12], [0, 1, 2, 3, 4, 5, 6, 7, 8, 9, 10, 11, 12, 13], [0, 1, 2, 3, 4, 5, 6, 7, 8, 9, 10, 11, 12, 13], [0, 1, 2, 3, 4, 5, 6, 7, 8, 9, 10, 11, 12, 13], [0, 1, 2, 3, 4, 5, 6, 7, 8, 9, 10, 11, 12, 13, 14, 15, 16], [0, 1, 2, 3, 4, 5, 6, 7, 8, 9, 10, 11, 12, 13], [0, 1, 2, 3, 4, 5, 6, 7, 8, 9, 10, 11, 12, 13, 18], [0, 1, 2, 3, 4, 5, 6, 7, 8, 9, 10, 11, 12, 13, 18, 19], [0, 1, 2, 3, 4, 5, 6, 7, 8, 9, 10, 11, 12, 13, 18, 19, 20], [0, 1, 2, 3, 4, 5, 6, 7, 8, 9, 10, 11, 12, 13], [0, 1, 2, 3, 4, 5, 6, 7, 8, 9, 10, 11, 12, 13, 22], [0, 1, 2, 3, 4, 5, 6, 7, 8, 9, 10, 11, 12, 13, 22, 23], [0, 1, 2, 3, 4, 5, 6, 7, 8, 9, 10, 11, 12, 13, 22, 23, 24], [0, 1, 2, 3, 4, 5, 6, 7, 8, 9, 10, 11, 12, 13], [0, 1, 2, 3, 4, 5, 6, 7, 8, 9, 10, 11, 12, 13, 14, 15, 16, 17, 18, 19, 20, 21, 22, 23, 24, 25, 26], [0, 1, 2, 3, 4, 5, 6, 7, 8, 9, 10, 11, 12, 13, 14, 15, 16, 17, 18, 19, 20, 21, 22, 23, 24, 25, 26, 27], [0, 1, 2, 3, 4, 5, 6, 7, 8, 9, 10, 11, 12, 13, 14, 15, 16, 17, 18, 19, 20, 21, 22, 23, 24, 25, 26, 27, 28], [0, 1, 2, 3, 4, 5, 6, 7, 8, 9, 10, 11, 12, 13, 14, 15, 16, 17, 18, 19, 20, 21, 22, 23, 24, 25, 26, 27, 28, 29], [0, 1, 2, 3, 4, 5, 6, 7, 8, 9, 10, 11, 12, 13, 14, 15, 16, 17, 18, 19, 20, 21, 22, 23, 24, 25, 26, 27, 28, 29, 30], [0, 1, 2, 3, 4, 5, 6, 7, 8, 9, 10, 11, 12, 13, 14, 15, 16, 17, 18, 19, 20, 21, 22, 23, 24, 25, 26, 27, 28, 29, 30], [0, 1, 2, 3, 4, 5, 6, 7, 8, 9, 10, 11, 12, 13, 14, 15, 16, 17, 18, 19, 20, 21, 22, 23, 24, 25, 26, 27, 28, 29, 30, 31, 32], [0, 1, 2, 3, 4, 5, 6, 7, 8, 9, 10, 11, 12, 13, 14, 15, 16, 17, 18, 19, 20, 21, 22, 23, 24, 25, 26, 27, 28, 29, 30], [0, 1, 2, 3, 4, 5, 6, 7, 8, 9, 10, 11, 12, 13, 14, 15, 16, 17, 18, 19, 20, 21, 22, 23, 24, 25, 26, 27, 28, 29, 30, 34], [0, 1, 2, 3, 4, 5, 6, 7, 8, 9, 10, 11, 12, 13, 14, 15, 16, 17, 18, 19, 20, 21, 22, 23, 24, 25, 26, 27, 28, 29, 30, 34, 35], [0, 1, 2, 3, 4, 5, 6, 7, 8, 9, 10, 11, 12, 13, 14, 15, 16, 17, 18, 19, 20, 21, 22, 23, 24, 25, 26, 27, 28, 29, 30, 34, 35, 36], [0, 1, 2, 3, 4, 5, 6, 7, 8, 9, 10, 11, 12, 13, 14, 15, 16, 17, 18, 19, 20, 21, 22, 23, 24, 25, 26, 27, 28, 29, 30], [0, 1, 2, 3, 4, 5, 6, 7, 8, 9, 10, 11, 12, 13, 14, 15, 16, 17, 18, 19, 20, 21, 22, 23, 24, 25, 26, 27, 28, 29, 30, 31, 32, 33, 34, 35, 36, 37, 38], [0, 1, 2, 3, 4, 5, 6, 7, 8, 9, 10, 11, 12, 13, 14, 15, 16, 17, 18, 19, 20, 21, 22, 23, 24, 25, 26, 27, 28, 29, 30, 31, 32, 33, 34, 35, 36, 37, 38, 39], [0, 1, 2, 3, 4, 5, 6, 7, 8, 9, 10, 11, 12, 13, 14, 15, 16, 17, 18, 19, 20, 21, 22, 23, 24, 25, 26, 27, 28, 29, 30, 31, 32, 33, 34, 35, 36, 37, 38, 39, 40], [0, 1, 2, 3, 4, 5, 6, 7, 8, 9, 10, 11, 12, 13, 14, 15, 16, 17, 18, 19, 20, 21, 22, 23, 24, 25, 26, 27, 28, 29, 30, 31, 32, 33, 34, 35, 36, 37, 38, 39, 40, 41]]) (S := [0, 1, 2, 3, 4, 5, 6, 7, 8, 9, 10, 11, 12, 13, 14, 15, 16, 17, 18, 19, 20, 21, 22, 23, 24, 25, 26, 27, 28, 29, 30, 31, 32, 33, 34, 35, 36, 37, 38, 39, 40, 41, 42]) (F := []) (V := VL [(0, fun v _ => v = Sl.v i), (1, fun v _ => v = .int .i64 j), (2, fun v _ => v = .pointer (some (aJ.add (j.toNat * 6)))), (3, fun v _ => v = .agg #[.bool am, .bool an, Sl.v ao, Sl.v ap, .int .i64 aq, Sl.v ar]), (4, fun v _ => v = .pointer (some k)), (5, fun v _ => v = .pointer (some k)), (6, fun v _ => v = .pointer (some (k.add 3))), (7, fun v _ => v = Sl.v au), (8, fun v _ => v = .int .i64 j), (9, fun v _ => v = .pointer (some (aK.add (j.toNat * 6)))), (10, fun v _ => v = .agg #[.bool av, .bool ax, Sl.v ay, Sl.v az, .int .i64 aA, Sl.v aB]), (11, fun v _ => v = .bool b), (12, fun v _ => v = .bool (!b)), (13, fun v _ => v = .bool (!b)), (14, fun v _ => v = cV (true && ((!b) == false)) (.agg #[.int .i64 m, .string (Bs o), .string (Bs p), Sl.v q, Sl.v r])), (15, fun v _ => v = cV (true && ((!b) == false)) (Sl.v i)), (16, fun v _ => v = cV (true && ((!b) == false)) (.int .i64 j)), (17, fun v _ => v = cV (true && ((!b) == false)) (.bool c)), (18, fun v _ => v = cV (true && ((!b) == false)) (.pointer (some k))), (19, fun v _ => v = cV (true && ((!b) == false)) (.pointer (some k))), (20, fun v _ => v = cV (true && ((!b) == false)) (.pointer (some (k.add 0)))), (21, fun v _ => v = cV (true && ((!b) == false)) (Sl.v aC)), (22, fun v _ => v = cV (true && ((!b) == false)) (.pointer (some k))), (23, fun v _ => v = cV (true && ((!b) == false)) (.pointer (some k))), (24, fun v _ => v = cV (true && ((!b) == false)) (.pointer (some (k.add 3)))), (25, fun v _ => v = cV (true && ((!b) == false)) (Sl.v aD)), (26, fun v _ => v = cV (true && ((!b) == false)) (.int .i64 j)), (27, fun v _ => v = cV (true && ((!b) == false)) (.bool d)), (28, fun v _ => v = cV (true && ((!b) == false)) (.bool (!(c == d)))), (29, fun v _ => v = .bool ((!b) || (!(c == d)))), (30, fun v _ => v = .bool ((!b) || (!(c == d)))), (31, fun v _ => v = cV (true && (((!b) || (!(c == d))) == false)) (.agg #[.int .i64 m, .string (Bs o), .string (Bs p), Sl.v q, Sl.v r])), (32, fun v _ => v = cV (true && (((!b) || (!(c == d))) == false)) (.int .i64 j)), (33, fun v w' => ∃ u : Sl, ((((b = true) ∧ ((c == d) = true))) → ak u w') ∧ v = cV (true && (((!b) || (!(c == d))) == false)) (Sl.v u)), (34, fun v _ => v = cV (true && (((!b) || (!(c == d))) == false)) (.pointer (some k))), (35, fun v _ => v = cV (true && (((!b) || (!(c == d))) == false)) (.pointer (some k))), (36, fun v _ => v = cV (true && (((!b) || (!(c == d))) == false)) (.pointer (some (k.add 0)))), (37, fun v _ => v = cV (true && (((!b) || (!(c == d))) == false)) (Sl.v aF)), (38, fun v _ => v = cV (true && (((!b) || (!(c == d))) == false)) (.int .i64 j)), (39, fun v w' => ∃ x : Sl, ((((b = true) ∧ ((c == d) = true))) → al x w') ∧ v = cV (true && (((!b) || (!(c == d))) == false)) (Sl.v x)), (40, fun v _ => v = cV (true && (((!b) || (!(c == d))) == false)) (.bool ab)), (41, fun v _ => v = cV (true && (((!b) || (!(c == d))) == false)) (.bool (!ab))), (42, fun v _ => v = .bool (((!b) || (!(c == d))) || (!ab)))]) l (by kernel_rfl) ⟨fun _ _ _ _ h => by first | exact h | (change _ = _ at h; change _ = _; exact h), fun _ _ _ _ h => by first | exact h | (change _ = _ at h; change _ = _; exact h), fun _ _ _ _ h => by first | exact h | (change _ = _ at h; change _ = _; exact h), fun _ _ _ _ h => by first | exact h | (change _ = _ at h; change _ = _; exact h), fun _ _ _ _ h => by first | exact h | (change _ = _ at h; change _ = _; exact h), fun _ _ _ _ h => by first | exact h | (change _ = _ at h; change _ = _; exact h), fun _ _ _ _ h => by first | exact h | (change _ = _ at h; change _ = _; exact h), fun _ _ _ _ h => by first | exact h | (change _ = _ at h; change _ = _; exact h), fun _ _ _ _ h => by first | exact h | (change _ = _ at h; change _ = _; exact h), fun _ _ _ _ h => by first | exact h | (change _ = _ at h; change _ = _; exact h), fun _ _ _ _ h => by first | exact h | (change _ = _ at h; change _ = _; exact h), fun _ _ _ _ h => by first | exact h | (change _ = _ at h; change _ = _; exact h), fun _ _ _ _ h => by first | exact h | (change _ = _ at h; change _ = _; exact h), fun _ _ _ _ h => by first | exact h | (change _ = _ at h; change _ = _; exact h), fun _ _ _ _ h => by first | exact h | (change _ = _ at h; change _ = _; exact h), fun _ _ _ _ h => by first | exact h | (change _ = _ at h; change _ = _; exact h), fun _ _ _ _ h => by first | exact h | (change _ = _ at h; change _ = _; exact h), fun _ _ _ _ h => by first | exact h | (change _ = _ at h; change _ = _; exact h), fun _ _ _ _ h => by first | exact h | (change _ = _ at h; change _ = _; exact h), fun _ _ _ _ h => by first | exact h | (change _ = _ at h; change _ = _; exact h), fun _ _ _ _ h => by first | exact h | (change _ = _ at h; change _ = _; exact h), fun _ _ _ _ h => by first | exact h | (change _ = _ at h; change _ = _; exact h), fun _ _ _ _ h => by first | exact h | (change _ = _ at h; change _ = _; exact h), fun _ _ _ _ h => by first | exact h | (change _ = _ at h; change _ = _; exact h), fun _ _ _ _ h => by first | exact h | (change _ = _ at h; change _ = _; exact h), fun _ _ _ _ h => by first | exact h | (change _ = _ at h; change _ = _; exact h), fun _ _ _ _ h => by first | exact h | (change _ = _ at h; change _ = _; exact h), fun _ _ _ _ h => by first | exact h | (change _ = _ at h; change _ = _; exact h), fun _ _ _ _ h => by first | exact h | (change _ = _ at h; change _ = _; exact h), fun _ _ _ _ h => by first | exact h | (change _ = _ at h; change _ = _; exact h), fun _ _ _ _ h => by first | exact h | (change _ = _ at h; change _ = _; exact h), fun _ _ _ _ h => by first | exact h | (change _ = _ at h; change _ = _; exact h), fun _ _ _ _ h => by first | exact h | (change _ = _ at h; change _ = _; exact h), fun _ _ _ hE ⟨u, h0_, e⟩ => ⟨u, (fun hp => cz u _ _ hE (h0_ hp)), e⟩, fun _ _ _ _ h => by first | exact h | (change _ = _ at h; change _ = _; exact h), fun _ _ _ _ h => by first | exact h | (change _ = _ at h; change _ = _; exact h), fun _ _ _ _ h => by first | exact h | (change _ = _ at h; change _ = _; exact h), fun _ _ _ _ h => by first | exact h | (change _ = _ at h; change _ = _; exact h), fun _ _ _ _ h => by first | exact h | (change _ = _ at h; change _ = _; exact h), fun _ _ _ hE ⟨x, h0_, e⟩ => ⟨x, (fun hp => cF x _ _ hE (h0_ hp)), e⟩, fun _ _ _ _ h => by first | exact h | (change _ = _ at h; change _ = _; exact h), fun _ _ _ _ h => by first | exact h | (change _ = _ at h; change _ = _; exact h), fun _ _ _ _ h => by first | exact h | (change _ = _ at h; change _ = _; exact h), trivial⟩ ⟨?_, ?_, ?_, ?_, ?_, ?_, ?_, ?_, ?_, ?_, ?_, ?_, ?_, ?_, ?_, ?_, ?_, ?_, ?_, ?_, ?_, ?_, ?_, ?_, ?_, ?_, ?_, ?_, ?_, ?_, ?_, ?_, ?_, ?_, ?_, ?_, ?_, ?_, ?_, ?_, ?_, ?_, ?_, trivial⟩ ?_
   ·intro a w hT
    have hAp := hT.ag l [(1, Sl.v i)] ⟨rfl, trivial⟩ (by kernel_rfl)
    exact ovr hAp rfl (r_move (hAp.get rfl)) fun _ => Eq.refl _
   ·intro a w hT
    have hAp := hT.ag l [(9, .int .i64 j)] ⟨rfl, trivial⟩ (by kernel_rfl)
    exact ovr hAp rfl (r_move (hAp.get rfl)) fun _ => Eq.refl _
   ·intro a w hT
    have hAp := hT.ag l [] trivial (by kernel_rfl)
    have hAp := hAp.add (t := 24) (v := Sl.v i) (hT.vals 0 rfl 24 rfl)
    have hAp := hAp.add (t := 25) (v := .int .i64 j) (hT.vals 1 rfl 25 rfl)
    exact ovr hAp rfl (r_indexAddr (hAp.get rfl) (hAp.get rfl) tU33 ti_43 bn.1 bn.2) fun _ => Eq.refl _
   ·intro a w hT
    have hAp := hT.ag l [] trivial (by kernel_rfl)
    have hAp := hAp.add (t := 26) (v := .pointer (some (aJ.add (j.toNat * 6)))) (hT.vals 2 rfl 26 rfl)
    exact ovr hAp rfl (r_loadN Try.underlying43 rfl ti_43 (hAp.get rfl) (cg.ext hT.chg)) fun _ => Eq.refl _
   ·intro a w hT
    have hAp := hT.ag l [(2, .pointer (some k))] ⟨rfl, trivial⟩ (by kernel_rfl)
    exact ovr hAp rfl (r_move (hAp.get rfl)) fun _ => Eq.refl _
   ·intro a w hT
    have hAp := hT.ag l [] trivial (by kernel_rfl)
    have hAp := hAp.add (t := 28) (v := .pointer (some k)) (hT.vals 4 rfl 28 rfl)
    exact ovr hAp rfl (r_nilCheck (hAp.get rfl)) fun _ => Eq.refl _
   ·intro a w hT
    have hAp := hT.ag l [] trivial (by kernel_rfl)
    have hAp := hAp.add (t := 29) (v := .pointer (some k)) (hT.vals 5 rfl 29 rfl)
    exact ovr hAp rfl (r_fieldAddr (hAp.get rfl) Try.underlying91 rfl ti_89 (by decide)) fun _ => Eq.refl _
   ·intro a w hT
    have hAp := hT.ag l [] trivial (by kernel_rfl)
    have hAp := hAp.add (t := 30) (v := .pointer (some (k.add 3))) (hT.vals 6 rfl 30 rfl)
    exact ovr hAp rfl (r_load1 tU89 rfl (hAp.get rfl) (Ext.cell hT.chg ci)) fun _ => Eq.refl _
   ·intro a w hT
    have hAp := hT.ag l [(9, .int .i64 j)] ⟨rfl, trivial⟩ (by kernel_rfl)
    exact ovr hAp rfl (r_move (hAp.get rfl)) fun _ => Eq.refl _
   ·intro a w hT
    have hAp := hT.ag l [] trivial (by kernel_rfl)
    have hAp := hAp.add (t := 31) (v := Sl.v au) (hT.vals 7 rfl 31 rfl)
    have hAp := hAp.add (t := 32) (v := .int .i64 j) (hT.vals 8 rfl 32 rfl)
    exact ovr hAp rfl (r_indexAddr (hAp.get rfl) (hAp.get rfl) tU89 ti_93 bo.1 bo.2) fun _ => Eq.refl _
   ·intro a w hT
    have hAp := hT.ag l [] trivial (by kernel_rfl)
    have hAp := hAp.add (t := 33) (v := .pointer (some (aK.add (j.toNat * 6)))) (hT.vals 9 rfl 33 rfl)
    exact ovr hAp rfl (r_loadN Try.underlying93 rfl ti_93 (hAp.get rfl) (cl.ext hT.chg)) fun _ => Eq.refl _
   ·intro a w hT
    have hAp := hT.ag l [] trivial (by kernel_rfl)
    have hAp := hAp.add (t := 27) (v := .agg #[.bool am, .bool an, Sl.v ao, Sl.v ap, .int .i64 aq, Sl.v ar]) (hT.vals 3 rfl 27 rfl)
    have hAp := hAp.add (t := 34) (v := .agg #[.bool av, .bool ax, Sl.v ay, Sl.v az, .int .i64 aA, Sl.v aB]) (hT.vals 10 rfl 34 rfl)
    exact opk_callX hAp rfl (r_call (args := #[.agg #[.bool am, .bool an, Sl.v ao, Sl.v ap, .int .i64 aq, Sl.v ar], .agg #[.bool av, .bool ax, Sl.v ay, Sl.v az, .int .i64 aA, Sl.v aB]]) Try.func47 (by decide) rfl (map_arr (ml_cons (hAp.get rfl) (ml_cons (hAp.get rfl) ml_nil))) rfl) (cn w hT.chg) fun _ _ _ _ e hR => ⟨_, e, hR.1, fun _ => hR.2⟩
   ·intro a w hT
    have hAp := hT.ag l [] trivial (by kernel_rfl)
    have hAp := hAp.add (t := 35) (v := .bool b) (hT.vals 11 rfl 35 rfl)
    exact ovr hAp rfl (r_not (hAp.get rfl)) fun _ => Eq.refl _
   ·intro a w hT
    have hAp := hT.ag l [] trivial (by kernel_rfl)
    have hAp := hAp.add (t := 36) (v := .bool (!b)) (hT.vals 12 rfl 36 rfl)
    exact ovr hAp rfl (r_move (hAp.get rfl)) fun _ => Eq.refl _
   ·intro a w hT
    have hAp := hT.ag l [(4, pB z 0)] ⟨rfl, trivial⟩ (by kernel_rfl)
    have hAp := hAp.add (t := 37) (v := .bool (!b)) (hT.vals 13 rfl 37 rfl)
    exact opk_gval hAp rfl rfl (g := true) (e := (!b)) rfl (fun hg => r_loadN (cs := [.int .i64 m, .string (Bs o), .string (Bs p), Sl.v q, Sl.v r]) Try.underlying26 rfl ti_26 (hAp.get rfl) ((aV.ext hT.chg).part 0 _ rfl)) fun _ _ e => ⟨_, e, Chg.refl _ _, fun _ => Eq.refl _⟩
   ·intro a w hT
    have hAp := hT.ag l [(1, Sl.v i)] ⟨rfl, trivial⟩ (by kernel_rfl)
    have hAp := hAp.add (t := 37) (v := .bool (!b)) (hT.vals 13 rfl 37 rfl)
    exact opk_gval hAp rfl rfl (g := true) (e := (!b)) rfl (fun hg => r_move (hAp.get rfl)) fun _ _ e => ⟨_, e, Chg.refl _ _, fun _ => Eq.refl _⟩
   ·intro a w hT
    have hAp := hT.ag l [(9, .int .i64 j)] ⟨rfl, trivial⟩ (by kernel_rfl)
    have hAp := hAp.add (t := 37) (v := .bool (!b)) (hT.vals 13 rfl 37 rfl)
    exact opk_gval hAp rfl rfl (g := true) (e := (!b)) rfl (fun hg => r_move (hAp.get rfl)) fun _ _ e => ⟨_, e, Chg.refl _ _, fun _ => Eq.refl _⟩
   ·intro a w hT
    have hAp := hT.ag l [] trivial (by kernel_rfl)
    have hAp := hAp.add (t := 37) (v := .bool (!b)) (hT.vals 13 rfl 37 rfl)
    have hAp := hAp.add (t := 38) (v := cV (true && ((!b) == false)) (.agg #[.int .i64 m, .string (Bs o), .string (Bs p), Sl.v q, Sl.v r])) (hT.vals 14 rfl 38 rfl)
    have hAp := hAp.add (t := 39) (v := cV (true && ((!b) == false)) (Sl.v i)) (hT.vals 15 rfl 39 rfl)
    have hAp := hAp.add (t := 40) (v := cV (true && ((!b) == false)) (.int .i64 j)) (hT.vals 16 rfl 40 rfl)
    exact opk_gcall hAp rfl rfl (g := true) (e := (!b)) rfl (fun hg => r_call (args := #[.agg #[.int .i64 m, .string (Bs o), .string (Bs p), Sl.v q, Sl.v r], Sl.v i, .int .i64 j]) Try.func16 (by decide) rfl (map_arr (ml_cons (cv_get (hAp.get rfl) hg) (ml_cons (cv_get (hAp.get rfl) hg) (ml_cons (cv_get (hAp.get rfl) hg) ml_nil)))) rfl) (fun hg => cp (b_not_f (g_f hg)) w hT.chg) fun _ _ _ e hE => ⟨_, e, hE, fun _ => Eq.refl _⟩
   ·intro a w hT
    have hAp := hT.ag l [(2, .pointer (some k))] ⟨rfl, trivial⟩ (by kernel_rfl)
    have hAp := hAp.add (t := 37) (v := .bool (!b)) (hT.vals 13 rfl 37 rfl)
    exact opk_gval hAp rfl rfl (g := true) (e := (!b)) rfl (fun hg => r_move (hAp.get rfl)) fun _ _ e => ⟨_, e, Chg.refl _ _, fun _ => Eq.refl _⟩
   ·intro a w hT
    have hAp := hT.ag l [] trivial (by kernel_rfl)
    have hAp := hAp.add (t := 37) (v := .bool (!b)) (hT.vals 13 rfl 37 rfl)
    have hAp := hAp.add (t := 42) (v := cV (true && ((!b) == false)) (.pointer (some k))) (hT.vals 18 rfl 42 rfl)
    exact opk_gval hAp rfl rfl (g := true) (e := (!b)) rfl (fun hg => r_nilCheck (cv_get (hAp.get rfl) hg)) fun _ _ e => ⟨_, e, Chg.refl _ _, fun _ => Eq.refl _⟩
   ·intro a w hT
    have hAp := hT.ag l [] trivial (by kernel_rfl)
    have hAp := hAp.add (t := 37) (v := .bool (!b)) (hT.vals 13 rfl 37 rfl)
    have hAp := hAp.add (t := 43) (v := cV (true && ((!b) == false)) (.pointer (some k))) (hT.vals 19 rfl 43 rfl)
    exact opk_gval hAp rfl rfl (g := true) (e := (!b)) rfl (fun hg => r_fieldAddr (cv_get (hAp.get rfl) hg) Try.underlying91 rfl ti_31 (by decide)) fun _ _ e => ⟨_, e, Chg.refl _ _, fun _ => Eq.refl _⟩
   ·intro a w hT
    have hAp := hT.ag l [] trivial (by kernel_rfl)
    have hAp := hAp.add (t := 37) (v := .bool (!b)) (hT.vals 13 rfl 37 rfl)
    have hAp := hAp.add (t := 44) (v := cV (true && ((!b) == false)) (.pointer (some (k.add 0)))) (hT.vals 20 rfl 44 rfl)
    exact opk_gval hAp rfl rfl (g := true) (e := (!b)) rfl (fun hg => r_load1 tU31 rfl (cv_get (hAp.get rfl) hg) (Ext.cell hT.chg (cr (b_not_f (g_f hg))))) fun _ _ e => ⟨_, e, Chg.refl _ _, fun _ => Eq.refl _⟩
   ·intro a w hT
    have hAp := hT.ag l [(2, .pointer (some k))] ⟨rfl, trivial⟩ (by kernel_rfl)
    have hAp := hAp.add (t := 37) (v := .bool (!b)) (hT.vals 13 rfl 37 rfl)
    exact opk_gval hAp rfl rfl (g := true) (e := (!b)) rfl (fun hg => r_move (hAp.get rfl)) fun _ _ e => ⟨_, e, Chg.refl _ _, fun _ => Eq.refl _⟩
   ·intro a w hT
    have hAp := hT.ag l [] trivial (by kernel_rfl)
    have hAp := hAp.add (t := 37) (v := .bool (!b)) (hT.vals 13 rfl 37 rfl)
    have hAp := hAp.add (t := 46) (v := cV (true && ((!b) == false)) (.pointer (some k))) (hT.vals 22 rfl 46 rfl)
    exact opk_gval hAp rfl rfl (g := true) (e := (!b)) rfl (fun hg => r_nilCheck (cv_get (hAp.get rfl) hg)) fun _ _ e => ⟨_, e, Chg.refl _ _, fun _ => Eq.refl _⟩
   ·intro a w hT
    have hAp := hT.ag l [] trivial (by kernel_rfl)
    have hAp := hAp.add (t := 37) (v := .bool (!b)) (hT.vals 13 rfl 37 rfl)
    have hAp := hAp.add (t := 47) (v := cV (true && ((!b) == false)) (.pointer (some k))) (hT.vals 23 rfl 47 rfl)
    exact opk_gval hAp rfl rfl (g := true) (e := (!b)) rfl (fun hg => r_fieldAddr (cv_get (hAp.get rfl) hg) Try.underlying91 rfl ti_89 (by decide)) fun _ _ e => ⟨_, e, Chg.refl _ _, fun _ => Eq.refl _⟩
   ·intro a w hT
    have hAp := hT.ag l [] trivial (by kernel_rfl)
    have hAp := hAp.add (t := 37) (v := .bool (!b)) (hT.vals 13 rfl 37 rfl)
    have hAp := hAp.add (t := 48) (v := cV (true && ((!b) == false)) (.pointer (some (k.add 3)))) (hT.vals 24 rfl 48 rfl)
    exact opk_gval hAp rfl rfl (g := true) (e := (!b)) rfl (fun hg => r_load1 tU89 rfl (cv_get (hAp.get rfl) hg) (Ext.cell hT.chg (cu (b_not_f (g_f hg))))) fun _ _ e => ⟨_, e, Chg.refl _ _, fun _ => Eq.refl _⟩
   ·intro a w hT
    have hAp := hT.ag l [(9, .int .i64 j)] ⟨rfl, trivial⟩ (by kernel_rfl)
    have hAp := hAp.add (t := 37) (v := .bool (!b)) (hT.vals 13 rfl 37 rfl)
    exact opk_gval hAp rfl rfl (g := true) (e := (!b)) rfl (fun hg => r_move (hAp.get rfl)) fun _ _ e => ⟨_, e, Chg.refl _ _, fun _ => Eq.refl _⟩
   ·intro a w hT
    have hAp := hT.ag l [] trivial (by kernel_rfl)
    have hAp := hAp.add (t := 37) (v := .bool (!b)) (hT.vals 13 rfl 37 rfl)
    have hAp := hAp.add (t := 45) (v := cV (true && ((!b) == false)) (Sl.v aC)) (hT.vals 21 rfl 45 rfl)
    have hAp := hAp.add (t := 49) (v := cV (true && ((!b) == false)) (Sl.v aD)) (hT.vals 25 rfl 49 rfl)
    have hAp := hAp.add (t := 50) (v := cV (true && ((!b) == false)) (.int .i64 j)) (hT.vals 26 rfl 50 rfl)
    exact opk_gcall hAp rfl rfl (g := true) (e := (!b)) rfl (fun hg => r_call (args := #[Sl.v aC, Sl.v aD, .int .i64 j]) Try.func48 (by decide) rfl (map_arr (ml_cons (cv_get (hAp.get rfl) hg) (ml_cons (cv_get (hAp.get rfl) hg) (ml_cons (cv_get (hAp.get rfl) hg) ml_nil)))) rfl) (fun hg => cx (b_not_f (g_f hg)) w hT.chg) fun _ _ _ e hE => ⟨_, e, hE, fun _ => Eq.refl _⟩
   ·intro a w hT
    have hAp := hT.ag l [] trivial (by kernel_rfl)
    have hAp := hAp.add (t := 37) (v := .bool (!b)) (hT.vals 13 rfl 37 rfl)
    have hAp := hAp.add (t := 41) (v := cV (true && ((!b) == false)) (.bool c)) (hT.vals 17 rfl 41 rfl)
    have hAp := hAp.add (t := 51) (v := cV (true && ((!b) == false)) (.bool d)) (hT.vals 27 rfl 51 rfl)
    exact opk_gval hAp rfl rfl (g := true) (e := (!b)) rfl (fun hg => r_bneq (cv_get (hAp.get rfl) hg) (cv_get (hAp.get rfl) hg) tU4) fun _ _ e => ⟨_, e, Chg.refl _ _, fun _ => Eq.refl _⟩
   ·intro a w hT
    have hAp := hT.ag l [] trivial (by kernel_rfl)
    have hAp := hAp.add (t := 37) (v := .bool (!b)) (hT.vals 13 rfl 37 rfl)
    have hAp := hAp.add (t := 52) (v := cV (true && ((!b) == false)) (.bool (!(c == d)))) (hT.vals 28 rfl 52 rfl)
    exact ovr hAp rfl (r_pick_or (g := (true && ((!b) == false))) (hAp.get rfl) (hAp.get rfl) (fun he => g_mkf rfl he)) fun _ => Eq.refl _
   ·intro a w hT
    have hAp := hT.ag l [] trivial (by kernel_rfl)
    have hAp := hAp.add (t := 53) (v := .bool ((!b) || (!(c == d)))) (hT.vals 29 rfl 53 rfl)
    exact ovr hAp rfl (r_move (hAp.get rfl)) fun _ => Eq.refl _
   ·intro a w hT
    have hAp := hT.ag l [(4, pB z 0)] ⟨rfl, trivial⟩ (by kernel_rfl)
    have hAp := hAp.add (t := 54) (v := .bool ((!b) || (!(c == d)))) (hT.vals 30 rfl 54 rfl)
    exact opk_gval hAp rfl rfl (g := true) (e := ((!b) || (!(c == d)))) rfl (fun hg => r_loadN (cs := [.int .i64 m, .string (Bs o), .string (Bs p), Sl.v q, Sl.v r]) Try.underlying26 rfl ti_26 (hAp.get rfl) ((aV.ext hT.chg).part 0 _ rfl)) fun _ _ e => ⟨_, e, Chg.refl _ _, fun _ => Eq.refl _⟩
   ·intro a w hT
    have hAp := hT.ag l [(9, .int .i64 j)] ⟨rfl, trivial⟩ (by kernel_rfl)
    have hAp := hAp.add (t := 54) (v := .bool ((!b) || (!(c == d)))) (hT.vals 30 rfl 54 rfl)
    exact opk_gval hAp rfl rfl (g := true) (e := ((!b) || (!(c == d)))) rfl (fun hg => r_move (hAp.get rfl)) fun _ _ e => ⟨_, e, Chg.refl _ _, fun _ => Eq.refl _⟩
   ·intro a w hT
    have hAp := hT.ag l [] trivial (by kernel_rfl)
    have hAp := hAp.add (t := 54) (v := .bool ((!b) || (!(c == d)))) (hT.vals 30 rfl 54 rfl)
    have hAp := hAp.add (t := 55) (v := cV (true && (((!b) || (!(c == d))) == false)) (.agg #[.int .i64 m, .string (Bs o), .string (Bs p), Sl.v q, Sl.v r])) (hT.vals 31 rfl 55 rfl)
    have hAp := hAp.add (t := 56) (v := cV (true && (((!b) || (!(c == d))) == false)) (.int .i64 j)) (hT.vals 32 rfl 56 rfl)
    exact opk_gcallM hAp rfl rfl (g := true) (e := ((!b) || (!(c == d)))) rfl (fun hg => r_call (args := #[.agg #[.int .i64 m, .string (Bs o), .string (Bs p), Sl.v q, Sl.v r], .int .i64 j]) Try.func24 (by decide) rfl (map_arr (ml_cons (cv_get (hAp.get rfl) hg) (ml_cons (cv_get (hAp.get rfl) hg) ml_nil))) rfl) (fun hg => cA ⟨(b_not_f (b_or_f (g_f hg)).1), (b_not_f (b_or_f (g_f hg)).2)⟩ w hT.chg) fun _ _ _ _ e hE hR => ⟨_, e, hE, fun _ => by obtain ⟨u, hx, hV⟩ := cvty (α := Sl) (fun s => Sl.v s) (fun s w => ak s w) (fun hg => by obtain ⟨u, h1, h2⟩ := hR hg; exact ⟨u, h1, h2⟩); exact ⟨u, fun hp => hV (g_mkf rfl (b_or_mkf ⟨(b_not_mkf hp.1), (b_not_mkf hp.2)⟩)), hx⟩⟩
   ·intro a w hT
    have hAp := hT.ag l [(2, .pointer (some k))] ⟨rfl, trivial⟩ (by kernel_rfl)
    have hAp := hAp.add (t := 54) (v := .bool ((!b) || (!(c == d)))) (hT.vals 30 rfl 54 rfl)
    exact opk_gval hAp rfl rfl (g := true) (e := ((!b) || (!(c == d)))) rfl (fun hg => r_move (hAp.get rfl)) fun _ _ e => ⟨_, e, Chg.refl _ _, fun _ => Eq.refl _⟩
   ·intro a w hT
    have hAp := hT.ag l [] trivial (by kernel_rfl)
    have hAp := hAp.add (t := 54) (v := .bool ((!b) || (!(c == d)))) (hT.vals 30 rfl 54 rfl)
    have hAp := hAp.add (t := 58) (v := cV (true && (((!b) || (!(c == d))) == false)) (.pointer (some k))) (hT.vals 34 rfl 58 rfl)
    exact opk_gval hAp rfl rfl (g := true) (e := ((!b) || (!(c == d)))) rfl (fun hg => r_nilCheck (cv_get (hAp.get rfl) hg)) fun _ _ e => ⟨_, e, Chg.refl _ _, fun _ => Eq.refl _⟩
   ·intro a w hT
    have hAp := hT.ag l [] trivial (by kernel_rfl)
    have hAp := hAp.add (t := 54) (v := .bool ((!b) || (!(c == d)))) (hT.vals 30 rfl 54 rfl)
    have hAp := hAp.add (t := 59) (v := cV (true && (((!b) || (!(c == d))) == false)) (.pointer (some k))) (hT.vals 35 rfl 59 rfl)
    exact opk_gval hAp rfl rfl (g := true) (e := ((!b) || (!(c == d)))) rfl (fun hg => r_fieldAddr (cv_get (hAp.get rfl) hg) Try.underlying91 rfl ti_31 (by decide)) fun _ _ e => ⟨_, e, Chg.refl _ _, fun _ => Eq.refl _⟩
   ·intro a w hT
    have hAp := hT.ag l [] trivial (by kernel_rfl)
    have hAp := hAp.add (t := 54) (v := .bool ((!b) || (!(c == d)))) (hT.vals 30 rfl 54 rfl)
    have hAp := hAp.add (t := 60) (v := cV (true && (((!b) || (!(c == d))) == false)) (.pointer (some (k.add 0)))) (hT.vals 36 rfl 60 rfl)
    exact opk_gval hAp rfl rfl (g := true) (e := ((!b) || (!(c == d)))) rfl (fun hg => r_load1 tU31 rfl (cv_get (hAp.get rfl) hg) (Ext.cell hT.chg (cC ⟨(b_not_f (b_or_f (g_f hg)).1), (b_not_f (b_or_f (g_f hg)).2)⟩))) fun _ _ e => ⟨_, e, Chg.refl _ _, fun _ => Eq.refl _⟩
   ·intro a w hT
    have hAp := hT.ag l [(9, .int .i64 j)] ⟨rfl, trivial⟩ (by kernel_rfl)
    have hAp := hAp.add (t := 54) (v := .bool ((!b) || (!(c == d)))) (hT.vals 30 rfl 54 rfl)
    exact opk_gval hAp rfl rfl (g := true) (e := ((!b) || (!(c == d)))) rfl (fun hg => r_move (hAp.get rfl)) fun _ _ e => ⟨_, e, Chg.refl _ _, fun _ => Eq.refl _⟩
   ·intro a w hT
    have hAp := hT.ag l [] trivial (by kernel_rfl)
    have hAp := hAp.add (t := 54) (v := .bool ((!b) || (!(c == d)))) (hT.vals 30 rfl 54 rfl)
    have hAp := hAp.add (t := 61) (v := cV (true && (((!b) || (!(c == d))) == false)) (Sl.v aF)) (hT.vals 37 rfl 61 rfl)
    have hAp := hAp.add (t := 62) (v := cV (true && (((!b) || (!(c == d))) == false)) (.int .i64 j)) (hT.vals 38 rfl 62 rfl)
    exact opk_gcallM hAp rfl rfl (g := true) (e := ((!b) || (!(c == d)))) rfl (fun hg => r_call (args := #[Sl.v aF, .int .i64 j]) Try.func17 (by decide) rfl (map_arr (ml_cons (cv_get (hAp.get rfl) hg) (ml_cons (cv_get (hAp.get rfl) hg) ml_nil))) rfl) (fun hg => cG ⟨(b_not_f (b_or_f (g_f hg)).1), (b_not_f (b_or_f (g_f hg)).2)⟩ w hT.chg) fun _ _ _ _ e hE hR => ⟨_, e, hE, fun _ => by obtain ⟨x, hx, hV⟩ := cvty (α := Sl) (fun s => Sl.v s) (fun s w => al s w) (fun hg => by obtain ⟨x, h1, h2⟩ := hR hg; exact ⟨x, h1, h2⟩); exact ⟨x, fun hp => hV (g_mkf rfl (b_or_mkf ⟨(b_not_mkf hp.1), (b_not_mkf hp.2)⟩)), hx⟩⟩
   ·intro a w hT
    have hAp := hT.ag l [] trivial (by kernel_rfl)
    have hAp := hAp.add (t := 54) (v := .bool ((!b) || (!(c == d)))) (hT.vals 30 rfl 54 rfl)
    obtain ⟨u, cJ, cK⟩ := hT.vals 33 rfl 57 rfl
    have hAp := hAp.add cK
    obtain ⟨x, cL, cM⟩ := hT.vals 39 rfl 63 rfl
    have hAp := hAp.add cM
    exact opk_gcall hAp rfl rfl (g := true) (e := ((!b) || (!(c == d)))) rfl (fun hg => r_call (args := #[Sl.v u, Sl.v x]) Try.func23 (by decide) rfl (map_arr (ml_cons (cv_get (hAp.get rfl) hg) (ml_cons (cv_get (hAp.get rfl) hg) ml_nil))) rfl) (fun hg => cI ⟨(b_not_f (b_or_f (g_f hg)).1), (b_not_f (b_or_f (g_f hg)).2)⟩ u x w hT.chg cJ cL) fun _ _ _ e hE => ⟨_, e, hE, fun _ => Eq.refl _⟩
   ·intro a w hT
    have hAp := hT.ag l [] trivial (by kernel_rfl)
    have hAp := hAp.add (t := 54) (v := .bool ((!b) || (!(c == d)))) (hT.vals 30 rfl 54 rfl)
    have hAp := hAp.add (t := 64) (v := cV (true && (((!b) || (!(c == d))) == false)) (.bool ab)) (hT.vals 40 rfl 64 rfl)
    exact opk_gval hAp rfl rfl (g := true) (e := ((!b) || (!(c == d)))) rfl (fun hg => r_not (cv_get (hAp.get rfl) hg)) fun _ _ e => ⟨_, e, Chg.refl _ _, fun _ => Eq.refl _⟩
   ·intro a w hT
    have hAp := hT.ag l [] trivial (by kernel_rfl)
    have hAp := hAp.add (t := 54) (v := .bool ((!b) || (!(c == d)))) (hT.vals 30 rfl 54 rfl)
    have hAp := hAp.add (t := 65) (v := cV (true && (((!b) || (!(c == d))) == false)) (.bool (!ab))) (hT.vals 41 rfl 65 rfl)
    exact ovr hAp rfl (r_pick_or (g := (true && (((!b) || (!(c == d))) == false))) (hAp.get rfl) (hAp.get rfl) (fun he => g_mkf rfl he)) fun _ => Eq.refl _
   ·intro cN ad bq cO cP
    have cQ := cO [(1, Sl.v i), (2, .pointer (some k)), (3, .int .i64 f), (4, pB z 0), (9, .int .i64 j)] ⟨rfl, rfl, rfl, rfl, rfl, trivial⟩ (by kernel_rfl)
    have cR : cN.tmps.getD 66 undef = .bool (((!b) || (!(c == d))) || (!ab)) := cP 42 rfl 66 rfl
    have cS := cQ.add cR
    have cT := aV.ext bq
    have br : Chg [] y ad := bq
    refine PR_end (by kernel_rfl) ?_
    have aP := cS.kp [(1, Sl.v i), (2, .pointer (some k)), (3, .int .i64 f), (4, pB z 0), (9, .int .i64 j), (66, .bool (((!b) || (!(c == d))) || (!ab)))] rfl
    refine then_normal ?_
    refine wp_cond_split (aP.get rfl) (fun hc => ?_) (fun hc => ?_)
    ·have cU := bp.1 ((b_or_t hc).imp (fun h => ((b_or_t h).imp (fun h => (b_not_t h)) (fun h => (b_not_t h)))) (fun h => (b_not_t h)))
     clear hc
     refine wp_seq (wp_region_lit ?_)
     refine sqv aP rfl (r_assign rfl) fun _ cX => sq_end ?_
     have bs := cX.kp [(8, .bool false)] rfl
     refine then_normal ?_
     refine wp_ret ?_
     refine block_ret ?_
     refine then_ret ?_
     refine then_ret ?_
     refine block_ret ?_
     refine then_ret ?_
     have cY := cU ad    br
     exact res_all (vs := [.bool false]) rfl bs ⟨res_of_tmp bs rfl, trivial⟩ cY
    ·have cZ := bp.2 ⟨⟨(b_not_f (b_or_f (b_or_f hc).1).1), (b_not_f (b_or_f (b_or_f hc).1).2)⟩, (b_not_f (b_or_f hc).2)⟩
     clear hc
     refine wp_skip ?_
     refine block_normal ?_
     refine then_normal (wp_region_lit ?_)
     refine sqv aP rfl (r_move (aP.get rfl)) fun _ bt => ?_
     obtain ⟨c0, c1⟩ := cZ
     refine sqv bt rfl (r_addI (bt.get rfl) rfl c0) fun _ bu => sqv bu rfl (r_assign (bu.get rfl)) fun _ c2 => sq_end ?_
     have c3 := c2.kp [(1, Sl.v i), (2, .pointer (some k)), (3, .int .i64 f), (4, pB z 0), (9, .int .i64 (j + 1))] rfl
     have bv := c1 ad    br
     have c4 := c3.kp [(1, Sl.v i), (2, .pointer (some k)), (3, .int .i64 f), (4, pB z 0), (9, .int .i64 (j + 1))] rfl
     exact then_normal ⟨(j + 1, ad), ⟨c4, cT, rfl, bv.1⟩, bv.2⟩
  ·have c5 := bj.2 (of_decide_eq_false hc)
   clear hc
   refine wp_exit ?_
   refine then_exit ?_
   refine then_exit ?_
   refine block_hit ?_
   have bx := l.kp [(1, Sl.v i), (3, .int .i64 f), (4, pB z 0)] rfl
   refine then_normal (wp_seq (wp_region_lit ?_))
   refine sqv bx rfl (r_move (bx.get rfl)) fun _ bz => sqv bz rfl (r_geq (bz.get rfl) rfl) fun _ bA => sqv bA rfl (r_move (bA.get rfl)) fun _ bB => ?_
   refine sq (opk_gval bB rfl rfl (g := true) (e := (decide (0 ≤ f))) rfl (fun hg => r_move (bB.get rfl)) fun dk bC _ => ?_)
   refine sq (opk_gval bC rfl rfl (g := true) (e := (decide (0 ≤ f))) rfl (fun hg => r_move (bC.get rfl)) fun dl bD _ => ?_)
   refine sq (opk_gval bD rfl rfl (g := true) (e := (decide (0 ≤ f))) rfl (fun hg => r_len (cv_get (bD.get rfl) hg) tU33) fun dm aX _ => ?_)
   refine sq (opk_gval aX rfl rfl (g := true) (e := (decide (0 ≤ f))) rfl (fun hg => r_lss (cv_get (aX.get rfl) hg) (cv_get (aX.get rfl) hg)) fun dn aY _ => ?_)
   refine sqv aY rfl (r_pick_and (g := (true && ((decide (0 ≤ f)) == true))) (aY.get rfl) (aY.get rfl) (fun he => g_mkt rfl he)) fun _ bF => sqv bF rfl (r_move (bF.get rfl)) fun _ bG => ?_
   refine sq (opk_gval bG rfl rfl (g := true) (e := ((decide (0 ≤ f)) && (decide (f < (i.n : Int))))) rfl (fun hg => r_loadN (cs := [.int .i64 m, .string (Bs o), .string (Bs p), Sl.v q, Sl.v r]) Try.underlying26 rfl ti_26 (bG.get rfl) (aT.part 0 _ rfl)) fun dp bH _ => ?_)
   refine sq (opk_gval bH rfl rfl (g := true) (e := ((decide (0 ≤ f)) && (decide (f < (i.n : Int))))) rfl (fun hg => r_move (bH.get rfl)) fun dq bI _ => ?_)
   refine sq (opk_gval bI rfl rfl (g := true) (e := ((decide (0 ≤ f)) && (decide (f < (i.n : Int))))) rfl (fun hg => r_move (bI.get rfl)) fun dr aQ _ => ?_)
   obtain ⟨aa, c6, c7⟩ := c5
   refine sq (opk_gcall aQ rfl rfl (g := true) (e := ((decide (0 ≤ f)) && (decide (f < (i.n : Int))))) rfl (fun hg => r_call (args := #[.agg #[.int .i64 m, .string (Bs o), .string (Bs p), Sl.v q, Sl.v r], Sl.v i, .int .i64 f]) Try.func16 (by decide) rfl (map_arr (ml_cons (cv_get (aQ.get rfl) hg) (ml_cons (cv_get (aQ.get rfl) hg) (ml_cons (cv_get (aQ.get rfl) hg) ml_nil)))) rfl) (fun hg => c6 ((b_and_f (g_f hg)).imp (fun h => (of_decide_eq_false h)) (fun h => (of_decide_eq_false h)))) fun ds aj bJ _ aZ => ?_)
   have bK := aT.ext aZ
   have dt : Chg [] ai aj := aZ
   have c8 := c7 aj aZ
   refine sq (opk_gval bJ rfl rfl (g := true) (e := ((decide (0 ≤ f)) && (decide (f < (i.n : Int))))) rfl (fun hg => r_not (cv_get (bJ.get rfl) hg)) fun du bL _ => ?_)
   refine sq (opk_gval bL rfl rfl (g := true) (e := ((decide (0 ≤ f)) && (decide (f < (i.n : Int))))) rfl (fun hg => r_move (cv_get (bL.get rfl) hg)) fun dv bM _ => ?_)
   refine sq (opk_gval bM rfl rfl (g := (true && (((decide (0 ≤ f)) && (decide (f < (i.n : Int)))) == false))) (e := (!aa)) rfl (fun hg => r_loadN (cs := [.int .i64 m, .string (Bs o), .string (Bs p), Sl.v q, Sl.v r]) Try.underlying26 rfl ti_26 (bM.get rfl) (bK.part 0 _ rfl)) fun dx bN _ => ?_)
   refine sq (opk_gval bN rfl rfl (g := (true && (((decide (0 ≤ f)) && (decide (f < (i.n : Int)))) == false))) (e := (!aa)) rfl (fun hg => r_move (bN.get rfl)) fun dy hA372 _ => ?_)
   obtain ⟨aO, c9, da⟩ := c8
   refine sq (opk_gcallM hA372 rfl rfl (g := (true && (((decide (0 ≤ f)) && (decide (f < (i.n : Int)))) == false))) (e := (!aa)) rfl (fun hg => r_call (args := #[.agg #[.int .i64 m, .string (Bs o), .string (Bs p), Sl.v q, Sl.v r], .int .i64 f]) Try.func24 (by decide) rfl (map_arr (ml_cons (cv_get (hA372.get rfl) hg) (ml_cons (cv_get (hA372.get rfl) hg) ml_nil))) rfl) (fun hg => c9 ⟨((b_and_f (g_f (g_up hg))).imp (fun h => (of_decide_eq_false h)) (fun h => (of_decide_eq_false h))), (b_not_t (g_t hg))⟩) fun dz dA aG a1 _ a2 db => ?_)
   obtain ⟨af, dc, dd⟩ := cvty (α := Sl) (fun s => Sl.v s) (fun s w => aO s w) (fun hg => by obtain ⟨af, h1, h2⟩ := db hg; exact ⟨af, h1, h2⟩)
   rw [dc] at a1
   have dB := bK.ext a2
   have dC : Chg [] aj aG := a2
   have df := da af aG a2 (fun hp => dd (g_mkt (g_mkf rfl (b_and_mkf (Or.imp (fun h => (decide_eq_false h)) (fun h => (decide_eq_false h)) hp.1))) (b_not_mk hp.2)))
   refine sq (opk_gval a1 rfl rfl (g := (true && (((decide (0 ≤ f)) && (decide (f < (i.n : Int)))) == false))) (e := (!aa)) rfl (fun hg => r_len (cv_get (a1.get rfl) hg) tU22) fun dD bO _ => ?_)
   refine sq (opk_gval bO rfl rfl (g := (true && (((decide (0 ≤ f)) && (decide (f < (i.n : Int)))) == false))) (e := (!aa)) rfl (fun hg => r_eql (cv_get (bO.get rfl) hg) rfl) fun dF a3 _ => ?_)
   refine sq (opk_gval a3 rfl rfl (g := true) (e := ((decide (0 ≤ f)) && (decide (f < (i.n : Int))))) rfl (fun hg => r_pick_and (g := ((true && (((decide (0 ≤ f)) && (decide (f < (i.n : Int)))) == false)) && ((!aa) == true))) (cv_get (a3.get rfl) hg) (a3.get rfl) (fun he => g_mkt hg he)) fun dG a4 _ => ?_)
   refine sqv a4 rfl (r_pick_or (g := (true && (((decide (0 ≤ f)) && (decide (f < (i.n : Int)))) == false))) (a4.get rfl) (a4.get rfl) (fun he => g_mkf rfl he)) fun _ bP => sqv bP rfl (r_assign (bP.get rfl)) fun _ dg => sq_end ?_
   have bQ := dg.kp [(8, .bool (((decide (0 ≤ f)) && (decide (f < (i.n : Int)))) || ((!aa) && (decide ((af.n : Int) = 0)))))] rfl
   refine then_normal ?_
   refine wp_ret ?_
   exact res_all (vs := [.bool (((decide (0 ≤ f)) && (decide (f < (i.n : Int)))) || ((!aa) && (decide ((af.n : Int) = 0))))]) rfl bQ ⟨res_of_tmp bQ rfl, trivial⟩ df
end Go.Proofs.Yteohbfaechfliaa
