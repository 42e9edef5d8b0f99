/-
  PRINTED BY PROGRAM: for each function its condition (vc), and that this suffices (ok).
-/
import Derived.Test.YteohbfaechfliaaQSlotsAllGT
namespace Go.Proofs.Yteohbfaechfliaa
open Go.RowKit
set_option linter.unusedVariables false
set_option maxHeartbeats 1000000
set_option maxRecDepth 10000
def ref05_attrs.vc (f : Sl) (R : Value → World → Prop) (w : World) : Prop :=
((12 < (f.n : Int)) →
R (.bool false) w) ∧
((¬ (12 < (f.n : Int))) →
∃ (y : Int → World → Prop) (z : Int → World → Nat),
y 0 w ∧
(∀ (b : Int) (o : World), y b o →
((b < (f.n : Int)) →
∀ (l : World), Chg [] o l →
∃ p : Addr, (((0 : Int) ≤ b ∧ b < (f.n : Int)) ∧ f.a = some p) ∧
∃ (x : Str), (l.cell? ((p.add (b.toNat * 2)).add 0) = some (.string (Bs x))) ∧
∃ (c : Bool), (∀ w' : World, Ext l w' → Calls Try.prog 82 #[.string (Bs x)] w' (Ret fun v w'' => Ext w' w'' ∧ v = .bool c)) ∧
∃ q : Addr, (((c = true)) → ((0 : Int) ≤ b ∧ b < (f.n : Int)) ∧ f.a = some q) ∧
∃ (d : Str), (((c = true)) → l.cell? ((q.add (b.toNat * 2)).add 1) = some (.string (Bs d))) ∧
∃ r : Addr, ((((c = true) ∧ (¬ (4096 < (d.length : Int)))) ∧ (0 < b)) → ((0 : Int) ≤ b ∧ b < (f.n : Int)) ∧ f.a = some r) ∧
∃ (j : Str), ((((c = true) ∧ (¬ (4096 < (d.length : Int)))) ∧ (0 < b)) → l.cell? ((r.add (b.toNat * 2)).add 0) = some (.string (Bs j))) ∧
((((c = true) ∧ (¬ (4096 < (d.length : Int)))) ∧ (0 < b)) → I64 (b - 1)) ∧
∃ u : Addr, ((((c = true) ∧ (¬ (4096 < (d.length : Int)))) ∧ (0 < b)) → ((0 : Int) ≤ b - 1 ∧ b - 1 < (f.n : Int)) ∧ f.a = some u) ∧
∃ (k : Str), ((((c = true) ∧ (¬ (4096 < (d.length : Int)))) ∧ (0 < b)) → l.cell? ((u.add ((b - 1).toNat * 2)).add 0) = some (.string (Bs k))) ∧
((((c = false) ∨ (4096 < (d.length : Int))) ∨ ((0 < b) ∧ (((Op.bytesLess j k) = true) ∨ (j = k)))) →
∀ (m : World), Chg [] l m →
R (.bool false) m) ∧
((((c = true) ∧ (¬ (4096 < (d.length : Int)))) ∧ ((¬ (0 < b)) ∨ (((Op.bytesLess j k) = false) ∧ (¬ (j = k))))) →
(I64 (b + 1)) ∧
∀ (m : World), Chg [] l m →
y (b + 1) m ∧ z (b + 1) m < z b o)) ∧
((¬ (b < (f.n : Int))) →
R (.bool true) o)))
theorem ref05_attrs.ok (f : Sl) {R : Value → World → Prop} {w : World} (ab : ref05_attrs.vc f R w) : Calls Try.prog 83 #[Sl.v f] w (Ret R) := by
 refine enter [Sl.v f] Try.func83 rfl Try.ntmps83 rfl ?_
 intro a0 aD
 unfold ref05_attrs.vc at ab
 refine wp_seq (wp_region_lit ?_)
 refine sqv aD rfl (r_assign rfl) fun _ aF => sq_end ?_
 have ah := aF.kp [(0, Sl.v f)] rfl
 refine then_normal (wp_seq (wp_seq (wp_region_lit ?_)))
 refine sqv ah rfl (r_move (ah.get rfl)) fun _ ai => sqv ai rfl (r_len (ai.get rfl) tU23) fun _ aj => sqv aj rfl (r_gtr (aj.get rfl) rfl) fun _ aG => sq_end ?_
 have ad := aG.kp [(0, Sl.v f), (6, .bool (decide (12 < (f.n : Int))))] rfl
 refine then_normal ?_
 refine wp_cond_split (ad.get rfl) (fun hc => ?_) (fun hc => ?_)
 ·have aH := ab.1 (of_decide_eq_true hc)
  clear hc
  refine wp_seq (wp_region_lit ?_)
  refine sqv ad rfl (r_assign rfl) fun _ aI => sq_end ?_
  have ak := aI.kp [(2, .bool false)] rfl
  refine then_normal ?_
  refine wp_ret ?_
  refine then_ret ?_
  exact res_all (vs := [.bool false]) rfl ak ⟨res_of_tmp ak rfl, trivial⟩ aH
 ·have aJ := ab.2 (of_decide_eq_false hc)
  clear hc
  refine wp_skip ?_
  refine then_normal (wp_seq (wp_seq (wp_region_lit ?_)))
  refine sqv ad rfl (r_assign rfl) fun _ aK => sq_end ?_
  have aL := aK.kp [(0, Sl.v f), (3, .int .i64 0)] rfl
  refine then_normal (wp_block ?_)
  obtain ⟨y, z, aM, aN⟩ := aJ
  refine wp_loop_st (σ := Int × World) (fun s a w => Ag 47 a [(0, Sl.v f), (3, .int .i64 s.1)] ∧ w = s.2 ∧ y s.1 s.2) (fun s => z s.1 s.2) (0, w) ⟨aL.kp [(0, Sl.v f), (3, .int .i64 0)] rfl, rfl, aM⟩ ?_
  rintro ⟨b, o⟩ bx w_ ⟨al, hw_, aO⟩
  have hw_ : o = w_ := hw_.symm
  subst hw_
  have am := aN b _ aO
  refine wp_seq (wp_seq (wp_region_lit ?_))
  refine sqv al rfl (r_move (al.get rfl)) fun _ an => sqv an rfl (r_move (an.get rfl)) fun _ ao => sqv ao rfl (r_len (ao.get rfl) tU23) fun _ af => sqv af rfl (r_lss (af.get rfl) (af.get rfl)) fun _ aP => sq_end ?_
  have i := aP.kp [(0, Sl.v f), (3, .int .i64 b), (10, .bool (decide (b < (f.n : Int))))] rfl
  refine then_normal ?_
  refine wp_cond_split (i.get rfl) (fun hc => ?_) (fun hc => ?_)
  ·have aQ := am.1 (of_decide_eq_true hc)
   clear hc
   refine wp_skip ?_
   refine then_normal (wp_seq (wp_block (wp_seq ?_)))
   refine draw' (by kernel_rfl) fun l aR => ?_
   have aS : Chg [] o l := aR
   have aT := aQ l    aS
   obtain ⟨p, ap, aU⟩ := aT
   obtain ⟨x, aV, aX⟩ := aU
   obtain ⟨c, aY, aZ⟩ := aX
   obtain ⟨q, aq, ht174⟩ := aZ
   obtain ⟨d, a1, a2⟩ := ht174
   obtain ⟨r, ar, a3⟩ := a2
   obtain ⟨j, a4, a5⟩ := a3
   obtain ⟨a6, a7⟩ := a5
   obtain ⟨u, au, a8⟩ := a7
   obtain ⟨k, a9, av⟩ := a8
   refine par (D := [[], [], [0, 1], [0, 1, 2], [0, 1, 2, 3], [0, 1, 2, 3, 4], [0, 1, 2, 3, 4, 5], [0, 1, 2, 3, 4, 5, 6], [0, 1, 2, 3, 4, 5, 6, 7], [0, 1, 2, 3, 4, 5, 6, 7], [0, 1, 2, 3, 4, 5, 6, 7, 8, 9], [0, 1, 2, 3, 4, 5, 6, 7, 8, 9, 10], [0, 1, 2, 3, 4, 5, 6, 7, 8, 9, 10, 11], [0, 1, 2, 3, 4, 5, 6, 7, 8, 9, 10, 11, 12], [0, 1, 2, 3, 4, 5, 6, 7, 8, 9, 10, 11, 12, 13], [0, 1, 2, 3, 4, 5, 6, 7, 8, 9, 10, 11, 12, 13, 14], [0, 1, 2, 3, 4, 5, 6, 7, 8, 9, 10, 11, 12, 13, 14, 15], [0, 1, 2, 3, 4, 5, 6, 7, 8, 9, 10, 11, 12, 13, 14, 15, 16], [0, 1, 2, 3, 4, 5, 6, 7, 8, 9, 10, 11, 12, 13, 14, 15, 16, 17], [0, 1, 2, 3, 4, 5, 6, 7, 8, 9, 10, 11, 12, 13, 14, 15, 16, 17, 18], [0, 1, 2, 3, 4, 5, 6, 7, 8, 9, 10, 11, 12, 13, 14, 15, 16, 17, 18, 19], [0, 1, 2, 3, 4, 5, 6, 7, 8, 9, 10, 11, 12, 13, 14, 15, 16, 17, 18, 19], [0, 1, 2, 3, 4, 5, 6, 7, 8, 9, 10, 11, 12, 13, 14, 15, 16, 17, 18, 19, 20, 21], [0, 1, 2, 3, 4, 5, 6, 7, 8, 9, 10, 11, 12, 13, 14, 15, 16, 17, 18, 19, 20, 21, 22], [0, 1, 2, 3, 4, 5, 6, 7, 8, 9, 10, 11, 12, 13, 14, 15, 16, 17, 18, 19, 20, 21, 22, 23], [0, 1, 2, 3, 4, 5, 6, 7, 8, 9, 10, 11, 12, 13, 14, 15, 16, 17, 18, 19], [0, 1, 2, 3, 4, 5, 6, 7, 8, 9, 10, 11, 12, 13, 14, 15, 16, 17, 18, 19], [0, 1, 2, 3, 4, 5, 6, 7, 8, 9, 10, 11, 12, 13, 14, 15, 16, 17, 18, 19, 26], [0, 1, 2, 3, 4, 5, 6, 7, 8, 9, 10, 11, 12, 13, 14, 15, 16, 17, 18, 19, 25, 26, 27], [0, 1, 2, 3, 4, 5, 6, 7, 8, 9, 10, 11, 12, 13, 14, 15, 16, 17, 18, 19, 25, 26, 27, 28], [0, 1, 2, 3, 4, 5, 6, 7, 8, 9, 10, 11, 12, 13, 14, 15, 16, 17, 18, 19, 25, 26, 27, 28, 29], [0, 1, 2, 3, 4, 5, 6, 7, 8, 9, 10, 11, 12, 13, 14, 15, 16, 17, 18, 19, 20, 21, 22, 23, 24, 25, 26, 27, 28, 29, 30], [0, 1, 2, 3, 4, 5, 6, 7, 8, 9, 10, 11, 12, 13, 14, 15, 16, 17, 18, 19, 20, 21, 22, 23, 24, 25, 26, 27, 28, 29, 30, 31], [0, 1, 2, 3, 4, 5, 6, 7, 8, 9, 10, 11, 12, 13, 14, 15, 16, 17, 18, 19, 20, 21, 22, 23, 24, 25, 26, 27, 28, 29, 30, 31, 32]]) (S := [0, 1, 2, 3, 4, 5, 6, 7, 8, 9, 10, 11, 12, 13, 14, 15, 16, 17, 18, 19, 20, 21, 22, 23, 24, 25, 26, 27, 28, 29, 30, 31, 32, 33]) (F := []) (V := VL [(0, fun v _ => v = Sl.v f), (1, fun v _ => v = .int .i64 b), (2, fun v _ => v = .pointer (some (p.add (b.toNat * 2)))), (3, fun v _ => v = .pointer (some ((p.add (b.toNat * 2)).add 0))), (4, fun v _ => v = .string (Bs x)), (5, fun v _ => v = .bool c), (6, fun v _ => v = .bool (!c)), (7, fun v _ => v = .bool (!c)), (8, fun v _ => v = cV (true && ((!c) == false)) (Sl.v f)), (9, fun v _ => v = cV (true && ((!c) == false)) (.int .i64 b)), (10, fun v _ => v = cV (true && ((!c) == false)) (.pointer (some (q.add (b.toNat * 2))))), (11, fun v _ => v = cV (true && ((!c) == false)) (.pointer (some ((q.add (b.toNat * 2)).add 1)))), (12, fun v _ => v = cV (true && ((!c) == false)) (.string (Bs d))), (13, fun v _ => v = cV (true && ((!c) == false)) (.int .i64 (d.length : Int))), (14, fun v _ => v = cV (true && ((!c) == false)) (.bool (decide (4096 < (d.length : Int))))), (15, fun v _ => v = .bool ((!c) || (decide (4096 < (d.length : Int))))), (16, fun v _ => v = .bool ((!c) || (decide (4096 < (d.length : Int))))), (17, fun v _ => v = cV (true && (((!c) || (decide (4096 < (d.length : Int)))) == false)) (.int .i64 b)), (18, fun v _ => v = cV (true && (((!c) || (decide (4096 < (d.length : Int)))) == false)) (.bool (decide (0 < b)))), (19, fun v _ => v = cV (true && (((!c) || (decide (4096 < (d.length : Int)))) == false)) (.bool (decide (0 < b)))), (20, fun v _ => v = cV ((true && (((!c) || (decide (4096 < (d.length : Int)))) == false)) && ((decide (0 < b)) == true)) (Sl.v f)), (21, fun v _ => v = cV ((true && (((!c) || (decide (4096 < (d.length : Int)))) == false)) && ((decide (0 < b)) == true)) (.int .i64 b)), (22, fun v _ => v = cV ((true && (((!c) || (decide (4096 < (d.length : Int)))) == false)) && ((decide (0 < b)) == true)) (.pointer (some (r.add (b.toNat * 2))))), (23, fun v _ => v = cV ((true && (((!c) || (decide (4096 < (d.length : Int)))) == false)) && ((decide (0 < b)) == true)) (.pointer (some ((r.add (b.toNat * 2)).add 0)))), (24, fun v _ => v = cV ((true && (((!c) || (decide (4096 < (d.length : Int)))) == false)) && ((decide (0 < b)) == true)) (.string (Bs j))), (25, fun v _ => v = cV ((true && (((!c) || (decide (4096 < (d.length : Int)))) == false)) && ((decide (0 < b)) == true)) (Sl.v f)), (26, fun v _ => v = cV ((true && (((!c) || (decide (4096 < (d.length : Int)))) == false)) && ((decide (0 < b)) == true)) (.int .i64 b)), (27, fun v _ => v = cV ((true && (((!c) || (decide (4096 < (d.length : Int)))) == false)) && ((decide (0 < b)) == true)) (.int .i64 (b - 1))), (28, fun v _ => v = cV ((true && (((!c) || (decide (4096 < (d.length : Int)))) == false)) && ((decide (0 < b)) == true)) (.pointer (some (u.add ((b - 1).toNat * 2))))), (29, fun v _ => v = cV ((true && (((!c) || (decide (4096 < (d.length : Int)))) == false)) && ((decide (0 < b)) == true)) (.pointer (some ((u.add ((b - 1).toNat * 2)).add 0)))), (30, fun v _ => v = cV ((true && (((!c) || (decide (4096 < (d.length : Int)))) == false)) && ((decide (0 < b)) == true)) (.string (Bs k))), (31, fun v _ => v = cV ((true && (((!c) || (decide (4096 < (d.length : Int)))) == false)) && ((decide (0 < b)) == true)) (.bool ((Op.bytesLess j k) || (decide (j = k))))), (32, fun v _ => v = cV (true && (((!c) || (decide (4096 < (d.length : Int)))) == false)) (.bool ((decide (0 < b)) && ((Op.bytesLess j k) || (decide (j = k)))))), (33, fun v _ => v = .bool (((!c) || (decide (4096 < (d.length : Int)))) || ((decide (0 < b)) && ((Op.bytesLess j k) || (decide (j = k))))))]) i (by kernel_rfl) ⟨fun _ _ _ _ h => by first | exact h | (change _ = _ at h; change _ = _; exact h), fun _ _ _ _ h => by first | exact h | (change _ = _ at h; change _ = _; exact h), fun _ _ _ _ h => by first | exact h | (change _ = _ at h; change _ = _; exact h), fun _ _ _ _ h => by first | exact h | (change _ = _ at h; change _ = _; exact h), fun _ _ _ _ h => by first | exact h | (change _ = _ at h; change _ = _; exact h), fun _ _ _ _ h => by first | exact h | (change _ = _ at h; change _ = _; exact h), fun _ _ _ _ h => by first | exact h | (change _ = _ at h; change _ = _; exact h), fun _ _ _ _ h => by first | exact h | (change _ = _ at h; change _ = _; exact h), fun _ _ _ _ h => by first | exact h | (change _ = _ at h; change _ = _; exact h), fun _ _ _ _ h => by first | exact h | (change _ = _ at h; change _ = _; exact h), fun _ _ _ _ h => by first | exact h | (change _ = _ at h; change _ = _; exact h), fun _ _ _ _ h => by first | exact h | (change _ = _ at h; change _ = _; exact h), fun _ _ _ _ h => by first | exact h | (change _ = _ at h; change _ = _; exact h), fun _ _ _ _ h => by first | exact h | (change _ = _ at h; change _ = _; exact h), fun _ _ _ _ h => by first | exact h | (change _ = _ at h; change _ = _; exact h), fun _ _ _ _ h => by first | exact h | (change _ = _ at h; change _ = _; exact h), fun _ _ _ _ h => by first | exact h | (change _ = _ at h; change _ = _; exact h), fun _ _ _ _ h => by first | exact h | (change _ = _ at h; change _ = _; exact h), fun _ _ _ _ h => by first | exact h | (change _ = _ at h; change _ = _; exact h), fun _ _ _ _ h => by first | exact h | (change _ = _ at h; change _ = _; exact h), fun _ _ _ _ h => by first | exact h | (change _ = _ at h; change _ = _; exact h), fun _ _ _ _ h => by first | exact h | (change _ = _ at h; change _ = _; exact h), fun _ _ _ _ h => by first | exact h | (change _ = _ at h; change _ = _; exact h), fun _ _ _ _ h => by first | exact h | (change _ = _ at h; change _ = _; exact h), fun _ _ _ _ h => by first | exact h | (change _ = _ at h; change _ = _; exact h), fun _ _ _ _ h => by first | exact h | (change _ = _ at h; change _ = _; exact h), fun _ _ _ _ h => by first | exact h | (change _ = _ at h; change _ = _; exact h), fun _ _ _ _ h => by first | exact h | (change _ = _ at h; change _ = _; exact h), fun _ _ _ _ h => by first | exact h | (change _ = _ at h; change _ = _; exact h), fun _ _ _ _ h => by first | exact h | (change _ = _ at h; change _ = _; exact h), fun _ _ _ _ h => by first | exact h | (change _ = _ at h; change _ = _; exact h), fun _ _ _ _ h => by first | exact h | (change _ = _ at h; change _ = _; exact h), fun _ _ _ _ h => by first | exact h | (change _ = _ at h; change _ = _; exact h), fun _ _ _ _ h => by first | exact h | (change _ = _ at h; change _ = _; exact h), trivial⟩ ⟨?_, ?_, ?_, ?_, ?_, ?_, ?_, ?_, ?_, ?_, ?_, ?_, ?_, ?_, ?_, ?_, ?_, ?_, ?_, ?_, ?_, ?_, ?_, ?_, ?_, ?_, ?_, ?_, ?_, ?_, ?_, ?_, ?_, ?_, trivial⟩ ?_
   ·intro a w hT
    have hAp := hT.ag i [(0, Sl.v f)] ⟨rfl, trivial⟩ (by kernel_rfl)
    exact ovr hAp rfl (r_move (hAp.get rfl)) fun _ => Eq.refl _
   ·intro a w hT
    have hAp := hT.ag i [(3, .int .i64 b)] ⟨rfl, trivial⟩ (by kernel_rfl)
    exact ovr hAp rfl (r_move (hAp.get rfl)) fun _ => Eq.refl _
   ·intro a w hT
    have hAp := hT.ag i [] trivial (by kernel_rfl)
    have hAp := hAp.add (t := 13) (v := Sl.v f) (hT.vals 0 rfl 13 rfl)
    have hAp := hAp.add (t := 14) (v := .int .i64 b) (hT.vals 1 rfl 14 rfl)
    exact ovr hAp rfl (r_indexAddr (hAp.get rfl) (hAp.get rfl) tU23 ti_47 ap.1 ap.2) fun _ => Eq.refl _
   ·intro a w hT
    have hAp := hT.ag i [] trivial (by kernel_rfl)
    have hAp := hAp.add (t := 15) (v := .pointer (some (p.add (b.toNat * 2)))) (hT.vals 2 rfl 15 rfl)
    exact ovr hAp rfl (r_fieldAddr (hAp.get rfl) Try.underlying47 rfl ti_9 (by decide)) fun _ => Eq.refl _
   ·intro a w hT
    have hAp := hT.ag i [] trivial (by kernel_rfl)
    have hAp := hAp.add (t := 16) (v := .pointer (some ((p.add (b.toNat * 2)).add 0))) (hT.vals 3 rfl 16 rfl)
    exact ovr hAp rfl (r_load1 tU9 rfl (hAp.get rfl) (Ext.cell hT.chg aV)) fun _ => Eq.refl _
   ·intro a w hT
    have hAp := hT.ag i [] trivial (by kernel_rfl)
    have hAp := hAp.add (t := 17) (v := .string (Bs x)) (hT.vals 4 rfl 17 rfl)
    exact opk_callX hAp rfl (r_call (args := #[.string (Bs x)]) Try.func82 (by decide) rfl (map_arr (ml_cons (hAp.get rfl) ml_nil)) rfl) (aY w hT.chg) fun _ _ _ _ e hR => ⟨_, e, hR.1, fun _ => hR.2⟩
   ·intro a w hT
    have hAp := hT.ag i [] trivial (by kernel_rfl)
    have hAp := hAp.add (t := 18) (v := .bool c) (hT.vals 5 rfl 18 rfl)
    exact ovr hAp rfl (r_not (hAp.get rfl)) fun _ => Eq.refl _
   ·intro a w hT
    have hAp := hT.ag i [] trivial (by kernel_rfl)
    have hAp := hAp.add (t := 19) (v := .bool (!c)) (hT.vals 6 rfl 19 rfl)
    exact ovr hAp rfl (r_move (hAp.get rfl)) fun _ => Eq.refl _
   ·intro a w hT
    have hAp := hT.ag i [(0, Sl.v f)] ⟨rfl, trivial⟩ (by kernel_rfl)
    have hAp := hAp.add (t := 20) (v := .bool (!c)) (hT.vals 7 rfl 20 rfl)
    exact opk_gval hAp rfl rfl (g := true) (e := (!c)) rfl (fun hg => r_move (hAp.get rfl)) fun _ _ e => ⟨_, e, Chg.refl _ _, fun _ => Eq.refl _⟩
   ·intro a w hT
    have hAp := hT.ag i [(3, .int .i64 b)] ⟨rfl, trivial⟩ (by kernel_rfl)
    have hAp := hAp.add (t := 20) (v := .bool (!c)) (hT.vals 7 rfl 20 rfl)
    exact opk_gval hAp rfl rfl (g := true) (e := (!c)) rfl (fun hg => r_move (hAp.get rfl)) fun _ _ e => ⟨_, e, Chg.refl _ _, fun _ => Eq.refl _⟩
   ·intro a w hT
    have hAp := hT.ag i [] trivial (by kernel_rfl)
    have hAp := hAp.add (t := 20) (v := .bool (!c)) (hT.vals 7 rfl 20 rfl)
    have hAp := hAp.add (t := 21) (v := cV (true && ((!c) == false)) (Sl.v f)) (hT.vals 8 rfl 21 rfl)
    have hAp := hAp.add (t := 22) (v := cV (true && ((!c) == false)) (.int .i64 b)) (hT.vals 9 rfl 22 rfl)
    exact opk_gval hAp rfl rfl (g := true) (e := (!c)) rfl (fun hg => r_indexAddr (cv_get (hAp.get rfl) hg) (cv_get (hAp.get rfl) hg) tU23 ti_47 (aq (b_not_f (g_f hg))).1 (aq (b_not_f (g_f hg))).2) fun _ _ e => ⟨_, e, Chg.refl _ _, fun _ => Eq.refl _⟩
   ·intro a w hT
    have hAp := hT.ag i [] trivial (by kernel_rfl)
    have hAp := hAp.add (t := 20) (v := .bool (!c)) (hT.vals 7 rfl 20 rfl)
    have hAp := hAp.add (t := 23) (v := cV (true && ((!c) == false)) (.pointer (some (q.add (b.toNat * 2))))) (hT.vals 10 rfl 23 rfl)
    exact opk_gval hAp rfl rfl (g := true) (e := (!c)) rfl (fun hg => r_fieldAddr (cv_get (hAp.get rfl) hg) Try.underlying47 rfl ti_9 (by decide)) fun _ _ e => ⟨_, e, Chg.refl _ _, fun _ => Eq.refl _⟩
   ·intro a w hT
    have hAp := hT.ag i [] trivial (by kernel_rfl)
    have hAp := hAp.add (t := 20) (v := .bool (!c)) (hT.vals 7 rfl 20 rfl)
    have hAp := hAp.add (t := 24) (v := cV (true && ((!c) == false)) (.pointer (some ((q.add (b.toNat * 2)).add 1)))) (hT.vals 11 rfl 24 rfl)
    exact opk_gval hAp rfl rfl (g := true) (e := (!c)) rfl (fun hg => r_load1 tU9 rfl (cv_get (hAp.get rfl) hg) (Ext.cell hT.chg (a1 (b_not_f (g_f hg))))) fun _ _ e => ⟨_, e, Chg.refl _ _, fun _ => Eq.refl _⟩
   ·intro a w hT
    have hAp := hT.ag i [] trivial (by kernel_rfl)
    have hAp := hAp.add (t := 20) (v := .bool (!c)) (hT.vals 7 rfl 20 rfl)
    have hAp := hAp.add (t := 25) (v := cV (true && ((!c) == false)) (.string (Bs d))) (hT.vals 12 rfl 25 rfl)
    exact opk_gval hAp rfl rfl (g := true) (e := (!c)) rfl (fun hg => r_slen (cv_get (hAp.get rfl) hg) tU9) fun _ _ e => ⟨_, e, Chg.refl _ _, fun _ => Eq.refl _⟩
   ·intro a w hT
    have hAp := hT.ag i [] trivial (by kernel_rfl)
    have hAp := hAp.add (t := 20) (v := .bool (!c)) (hT.vals 7 rfl 20 rfl)
    have hAp := hAp.add (t := 26) (v := cV (true && ((!c) == false)) (.int .i64 (d.length : Int))) (hT.vals 13 rfl 26 rfl)
    exact opk_gval hAp rfl rfl (g := true) (e := (!c)) rfl (fun hg => r_gtr (cv_get (hAp.get rfl) hg) rfl) fun _ _ e => ⟨_, e, Chg.refl _ _, fun _ => Eq.refl _⟩
   ·intro a w hT
    have hAp := hT.ag i [] trivial (by kernel_rfl)
    have hAp := hAp.add (t := 20) (v := .bool (!c)) (hT.vals 7 rfl 20 rfl)
    have hAp := hAp.add (t := 27) (v := cV (true && ((!c) == false)) (.bool (decide (4096 < (d.length : Int))))) (hT.vals 14 rfl 27 rfl)
    exact ovr hAp rfl (r_pick_or (g := (true && ((!c) == false))) (hAp.get rfl) (hAp.get rfl) (fun he => g_mkf rfl he)) fun _ => Eq.refl _
   ·intro a w hT
    have hAp := hT.ag i [] trivial (by kernel_rfl)
    have hAp := hAp.add (t := 28) (v := .bool ((!c) || (decide (4096 < (d.length : Int))))) (hT.vals 15 rfl 28 rfl)
    exact ovr hAp rfl (r_move (hAp.get rfl)) fun _ => Eq.refl _
   ·intro a w hT
    have hAp := hT.ag i [(3, .int .i64 b)] ⟨rfl, trivial⟩ (by kernel_rfl)
    have hAp := hAp.add (t := 29) (v := .bool ((!c) || (decide (4096 < (d.length : Int))))) (hT.vals 16 rfl 29 rfl)
    exact opk_gval hAp rfl rfl (g := true) (e := ((!c) || (decide (4096 < (d.length : Int))))) rfl (fun hg => r_move (hAp.get rfl)) fun _ _ e => ⟨_, e, Chg.refl _ _, fun _ => Eq.refl _⟩
   ·intro a w hT
    have hAp := hT.ag i [] trivial (by kernel_rfl)
    have hAp := hAp.add (t := 29) (v := .bool ((!c) || (decide (4096 < (d.length : Int))))) (hT.vals 16 rfl 29 rfl)
    have hAp := hAp.add (t := 30) (v := cV (true && (((!c) || (decide (4096 < (d.length : Int)))) == false)) (.int .i64 b)) (hT.vals 17 rfl 30 rfl)
    exact opk_gval hAp rfl rfl (g := true) (e := ((!c) || (decide (4096 < (d.length : Int))))) rfl (fun hg => r_gtr (cv_get (hAp.get rfl) hg) rfl) fun _ _ e => ⟨_, e, Chg.refl _ _, fun _ => Eq.refl _⟩
   ·intro a w hT
    have hAp := hT.ag i [] trivial (by kernel_rfl)
    have hAp := hAp.add (t := 29) (v := .bool ((!c) || (decide (4096 < (d.length : Int))))) (hT.vals 16 rfl 29 rfl)
    have hAp := hAp.add (t := 31) (v := cV (true && (((!c) || (decide (4096 < (d.length : Int)))) == false)) (.bool (decide (0 < b)))) (hT.vals 18 rfl 31 rfl)
    exact opk_gval hAp rfl rfl (g := true) (e := ((!c) || (decide (4096 < (d.length : Int))))) rfl (fun hg => r_move (cv_get (hAp.get rfl) hg)) fun _ _ e => ⟨_, e, Chg.refl _ _, fun _ => Eq.refl _⟩
   ·intro a w hT
    have hAp := hT.ag i [(0, Sl.v f)] ⟨rfl, trivial⟩ (by kernel_rfl)
    have hAp := hAp.add (t := 32) (v := cV (true && (((!c) || (decide (4096 < (d.length : Int)))) == false)) (.bool (decide (0 < b)))) (hT.vals 19 rfl 32 rfl)
    exact opk_gval hAp rfl rfl (g := (true && (((!c) || (decide (4096 < (d.length : Int)))) == false))) (e := (decide (0 < b))) rfl (fun hg => r_move (hAp.get rfl)) fun _ _ e => ⟨_, e, Chg.refl _ _, fun _ => Eq.refl _⟩
   ·intro a w hT
    have hAp := hT.ag i [(3, .int .i64 b)] ⟨rfl, trivial⟩ (by kernel_rfl)
    have hAp := hAp.add (t := 32) (v := cV (true && (((!c) || (decide (4096 < (d.length : Int)))) == false)) (.bool (decide (0 < b)))) (hT.vals 19 rfl 32 rfl)
    exact opk_gval hAp rfl rfl (g := (true && (((!c) || (decide (4096 < (d.length : Int)))) == false))) (e := (decide (0 < b))) rfl (fun hg => r_move (hAp.get rfl)) fun _ _ e => ⟨_, e, Chg.refl _ _, fun _ => Eq.refl _⟩
   ·intro a w hT
    have hAp := hT.ag i [] trivial (by kernel_rfl)
    have hAp := hAp.add (t := 32) (v := cV (true && (((!c) || (decide (4096 < (d.length : Int)))) == false)) (.bool (decide (0 < b)))) (hT.vals 19 rfl 32 rfl)
    have hAp := hAp.add (t := 33) (v := cV ((true && (((!c) || (decide (4096 < (d.length : Int)))) == false)) && ((decide (0 < b)) == true)) (Sl.v f)) (hT.vals 20 rfl 33 rfl)
    have hAp := hAp.add (t := 34) (v := cV ((true && (((!c) || (decide (4096 < (d.length : Int)))) == false)) && ((decide (0 < b)) == true)) (.int .i64 b)) (hT.vals 21 rfl 34 rfl)
    exact opk_gval hAp rfl rfl (g := (true && (((!c) || (decide (4096 < (d.length : Int)))) == false))) (e := (decide (0 < b))) rfl (fun hg => r_indexAddr (cv_get (hAp.get rfl) hg) (cv_get (hAp.get rfl) hg) tU23 ti_47 (ar ⟨⟨(b_not_f (b_or_f (g_f (g_up hg))).1), (of_decide_eq_false (b_or_f (g_f (g_up hg))).2)⟩, (of_decide_eq_true (g_t hg))⟩).1 (ar ⟨⟨(b_not_f (b_or_f (g_f (g_up hg))).1), (of_decide_eq_false (b_or_f (g_f (g_up hg))).2)⟩, (of_decide_eq_true (g_t hg))⟩).2) fun _ _ e => ⟨_, e, Chg.refl _ _, fun _ => Eq.refl _⟩
   ·intro a w hT
    have hAp := hT.ag i [] trivial (by kernel_rfl)
    have hAp := hAp.add (t := 32) (v := cV (true && (((!c) || (decide (4096 < (d.length : Int)))) == false)) (.bool (decide (0 < b)))) (hT.vals 19 rfl 32 rfl)
    have hAp := hAp.add (t := 35) (v := cV ((true && (((!c) || (decide (4096 < (d.length : Int)))) == false)) && ((decide (0 < b)) == true)) (.pointer (some (r.add (b.toNat * 2))))) (hT.vals 22 rfl 35 rfl)
    exact opk_gval hAp rfl rfl (g := (true && (((!c) || (decide (4096 < (d.length : Int)))) == false))) (e := (decide (0 < b))) rfl (fun hg => r_fieldAddr (cv_get (hAp.get rfl) hg) Try.underlying47 rfl ti_9 (by decide)) fun _ _ e => ⟨_, e, Chg.refl _ _, fun _ => Eq.refl _⟩
   ·intro a w hT
    have hAp := hT.ag i [] trivial (by kernel_rfl)
    have hAp := hAp.add (t := 32) (v := cV (true && (((!c) || (decide (4096 < (d.length : Int)))) == false)) (.bool (decide (0 < b)))) (hT.vals 19 rfl 32 rfl)
    have hAp := hAp.add (t := 36) (v := cV ((true && (((!c) || (decide (4096 < (d.length : Int)))) == false)) && ((decide (0 < b)) == true)) (.pointer (some ((r.add (b.toNat * 2)).add 0)))) (hT.vals 23 rfl 36 rfl)
    exact opk_gval hAp rfl rfl (g := (true && (((!c) || (decide (4096 < (d.length : Int)))) == false))) (e := (decide (0 < b))) rfl (fun hg => r_load1 tU9 rfl (cv_get (hAp.get rfl) hg) (Ext.cell hT.chg (a4 ⟨⟨(b_not_f (b_or_f (g_f (g_up hg))).1), (of_decide_eq_false (b_or_f (g_f (g_up hg))).2)⟩, (of_decide_eq_true (g_t hg))⟩))) fun _ _ e => ⟨_, e, Chg.refl _ _, fun _ => Eq.refl _⟩
   ·intro a w hT
    have hAp := hT.ag i [(0, Sl.v f)] ⟨rfl, trivial⟩ (by kernel_rfl)
    have hAp := hAp.add (t := 32) (v := cV (true && (((!c) || (decide (4096 < (d.length : Int)))) == false)) (.bool (decide (0 < b)))) (hT.vals 19 rfl 32 rfl)
    exact opk_gval hAp rfl rfl (g := (true && (((!c) || (decide (4096 < (d.length : Int)))) == false))) (e := (decide (0 < b))) rfl (fun hg => r_move (hAp.get rfl)) fun _ _ e => ⟨_, e, Chg.refl _ _, fun _ => Eq.refl _⟩
   ·intro a w hT
    have hAp := hT.ag i [(3, .int .i64 b)] ⟨rfl, trivial⟩ (by kernel_rfl)
    have hAp := hAp.add (t := 32) (v := cV (true && (((!c) || (decide (4096 < (d.length : Int)))) == false)) (.bool (decide (0 < b)))) (hT.vals 19 rfl 32 rfl)
    exact opk_gval hAp rfl rfl (g := (true && (((!c) || (decide (4096 < (d.length : Int)))) == false))) (e := (decide (0 < b))) rfl (fun hg => r_move (hAp.get rfl)) fun _ _ e => ⟨_, e, Chg.refl _ _, fun _ => Eq.refl _⟩
   ·intro a w hT
    have hAp := hT.ag i [] trivial (by kernel_rfl)
    have hAp := hAp.add (t := 32) (v := cV (true && (((!c) || (decide (4096 < (d.length : Int)))) == false)) (.bool (decide (0 < b)))) (hT.vals 19 rfl 32 rfl)
    have hAp := hAp.add (t := 39) (v := cV ((true && (((!c) || (decide (4096 < (d.length : Int)))) == false)) && ((decide (0 < b)) == true)) (.int .i64 b)) (hT.vals 26 rfl 39 rfl)
    exact opk_gval hAp rfl rfl (g := (true && (((!c) || (decide (4096 < (d.length : Int)))) == false))) (e := (decide (0 < b))) rfl (fun hg => r_subI (cv_get (hAp.get rfl) hg) rfl (a6 ⟨⟨(b_not_f (b_or_f (g_f (g_up hg))).1), (of_decide_eq_false (b_or_f (g_f (g_up hg))).2)⟩, (of_decide_eq_true (g_t hg))⟩)) fun _ _ e => ⟨_, e, Chg.refl _ _, fun _ => Eq.refl _⟩
   ·intro a w hT
    have hAp := hT.ag i [] trivial (by kernel_rfl)
    have hAp := hAp.add (t := 32) (v := cV (true && (((!c) || (decide (4096 < (d.length : Int)))) == false)) (.bool (decide (0 < b)))) (hT.vals 19 rfl 32 rfl)
    have hAp := hAp.add (t := 38) (v := cV ((true && (((!c) || (decide (4096 < (d.length : Int)))) == false)) && ((decide (0 < b)) == true)) (Sl.v f)) (hT.vals 25 rfl 38 rfl)
    have hAp := hAp.add (t := 40) (v := cV ((true && (((!c) || (decide (4096 < (d.length : Int)))) == false)) && ((decide (0 < b)) == true)) (.int .i64 (b - 1))) (hT.vals 27 rfl 40 rfl)
    exact opk_gval hAp rfl rfl (g := (true && (((!c) || (decide (4096 < (d.length : Int)))) == false))) (e := (decide (0 < b))) rfl (fun hg => r_indexAddr (cv_get (hAp.get rfl) hg) (cv_get (hAp.get rfl) hg) tU23 ti_47 (au ⟨⟨(b_not_f (b_or_f (g_f (g_up hg))).1), (of_decide_eq_false (b_or_f (g_f (g_up hg))).2)⟩, (of_decide_eq_true (g_t hg))⟩).1 (au ⟨⟨(b_not_f (b_or_f (g_f (g_up hg))).1), (of_decide_eq_false (b_or_f (g_f (g_up hg))).2)⟩, (of_decide_eq_true (g_t hg))⟩).2) fun _ _ e => ⟨_, e, Chg.refl _ _, fun _ => Eq.refl _⟩
   ·intro a w hT
    have hAp := hT.ag i [] trivial (by kernel_rfl)
    have hAp := hAp.add (t := 32) (v := cV (true && (((!c) || (decide (4096 < (d.length : Int)))) == false)) (.bool (decide (0 < b)))) (hT.vals 19 rfl 32 rfl)
    have hAp := hAp.add (t := 41) (v := cV ((true && (((!c) || (decide (4096 < (d.length : Int)))) == false)) && ((decide (0 < b)) == true)) (.pointer (some (u.add ((b - 1).toNat * 2))))) (hT.vals 28 rfl 41 rfl)
    exact opk_gval hAp rfl rfl (g := (true && (((!c) || (decide (4096 < (d.length : Int)))) == false))) (e := (decide (0 < b))) rfl (fun hg => r_fieldAddr (cv_get (hAp.get rfl) hg) Try.underlying47 rfl ti_9 (by decide)) fun _ _ e => ⟨_, e, Chg.refl _ _, fun _ => Eq.refl _⟩
   ·intro a w hT
    have hAp := hT.ag i [] trivial (by kernel_rfl)
    have hAp := hAp.add (t := 32) (v := cV (true && (((!c) || (decide (4096 < (d.length : Int)))) == false)) (.bool (decide (0 < b)))) (hT.vals 19 rfl 32 rfl)
    have hAp := hAp.add (t := 42) (v := cV ((true && (((!c) || (decide (4096 < (d.length : Int)))) == false)) && ((decide (0 < b)) == true)) (.pointer (some ((u.add ((b - 1).toNat * 2)).add 0)))) (hT.vals 29 rfl 42 rfl)
    exact opk_gval hAp rfl rfl (g := (true && (((!c) || (decide (4096 < (d.length : Int)))) == false))) (e := (decide (0 < b))) rfl (fun hg => r_load1 tU9 rfl (cv_get (hAp.get rfl) hg) (Ext.cell hT.chg (a9 ⟨⟨(b_not_f (b_or_f (g_f (g_up hg))).1), (of_decide_eq_false (b_or_f (g_f (g_up hg))).2)⟩, (of_decide_eq_true (g_t hg))⟩))) fun _ _ e => ⟨_, e, Chg.refl _ _, fun _ => Eq.refl _⟩
   ·intro a w hT
    have hAp := hT.ag i [] trivial (by kernel_rfl)
    have hAp := hAp.add (t := 32) (v := cV (true && (((!c) || (decide (4096 < (d.length : Int)))) == false)) (.bool (decide (0 < b)))) (hT.vals 19 rfl 32 rfl)
    have hAp := hAp.add (t := 37) (v := cV ((true && (((!c) || (decide (4096 < (d.length : Int)))) == false)) && ((decide (0 < b)) == true)) (.string (Bs j))) (hT.vals 24 rfl 37 rfl)
    have hAp := hAp.add (t := 43) (v := cV ((true && (((!c) || (decide (4096 < (d.length : Int)))) == false)) && ((decide (0 < b)) == true)) (.string (Bs k))) (hT.vals 30 rfl 43 rfl)
    exact opk_gval hAp rfl rfl (g := (true && (((!c) || (decide (4096 < (d.length : Int)))) == false))) (e := (decide (0 < b))) rfl (fun hg => r_sleq (cv_get (hAp.get rfl) hg) (cv_get (hAp.get rfl) hg)) fun _ _ e => ⟨_, e, Chg.refl _ _, fun _ => Eq.refl _⟩
   ·intro a w hT
    have hAp := hT.ag i [] trivial (by kernel_rfl)
    have hAp := hAp.add (t := 29) (v := .bool ((!c) || (decide (4096 < (d.length : Int))))) (hT.vals 16 rfl 29 rfl)
    have hAp := hAp.add (t := 32) (v := cV (true && (((!c) || (decide (4096 < (d.length : Int)))) == false)) (.bool (decide (0 < b)))) (hT.vals 19 rfl 32 rfl)
    have hAp := hAp.add (t := 44) (v := cV ((true && (((!c) || (decide (4096 < (d.length : Int)))) == false)) && ((decide (0 < b)) == true)) (.bool ((Op.bytesLess j k) || (decide (j = k))))) (hT.vals 31 rfl 44 rfl)
    exact opk_gval hAp rfl rfl (g := true) (e := ((!c) || (decide (4096 < (d.length : Int))))) rfl (fun hg => r_pick_and (g := ((true && (((!c) || (decide (4096 < (d.length : Int)))) == false)) && ((decide (0 < b)) == true))) (cv_get (hAp.get rfl) hg) (hAp.get rfl) (fun he => g_mkt hg he)) fun _ _ e => ⟨_, e, Chg.refl _ _, fun _ => Eq.refl _⟩
   ·intro a w hT
    have hAp := hT.ag i [] trivial (by kernel_rfl)
    have hAp := hAp.add (t := 29) (v := .bool ((!c) || (decide (4096 < (d.length : Int))))) (hT.vals 16 rfl 29 rfl)
    have hAp := hAp.add (t := 45) (v := cV (true && (((!c) || (decide (4096 < (d.length : Int)))) == false)) (.bool ((decide (0 < b)) && ((Op.bytesLess j k) || (decide (j = k)))))) (hT.vals 32 rfl 45 rfl)
    exact ovr hAp rfl (r_pick_or (g := (true && (((!c) || (decide (4096 < (d.length : Int)))) == false))) (hAp.get rfl) (hAp.get rfl) (fun he => g_mkf rfl he)) fun _ => Eq.refl _
   ·intro ba m bb bd bf
    have bg := bd [(0, Sl.v f), (3, .int .i64 b)] ⟨rfl, rfl, trivial⟩ (by kernel_rfl)
    have bh : ba.tmps.getD 46 undef = .bool (((!c) || (decide (4096 < (d.length : Int)))) || ((decide (0 < b)) && ((Op.bytesLess j k) || (decide (j = k))))) := bf 33 rfl 46 rfl
    have bi := bg.add bh
    have ax : Chg [] l m := bb
    refine PR_end (by kernel_rfl) ?_
    have aa := bi.kp [(0, Sl.v f), (3, .int .i64 b), (46, .bool (((!c) || (decide (4096 < (d.length : Int)))) || ((decide (0 < b)) && ((Op.bytesLess j k) || (decide (j = k))))))] rfl
    refine then_normal ?_
    refine wp_cond_split (aa.get rfl) (fun hc => ?_) (fun hc => ?_)
    ·have bj := av.1 ((b_or_t hc).imp (fun h => ((b_or_t h).imp (fun h => (b_not_t h)) (fun h => (of_decide_eq_true h)))) (fun h => ⟨(of_decide_eq_true (b_and_t h).1), ((b_or_t (b_and_t h).2).imp (fun h => h) (fun h => (of_decide_eq_true h)))⟩))
     clear hc
     refine wp_seq (wp_region_lit ?_)
     refine sqv aa rfl (r_assign rfl) fun _ bk => sq_end ?_
     have ay := bk.kp [(2, .bool false)] rfl
     refine then_normal ?_
     refine wp_ret ?_
     refine block_ret ?_
     refine then_ret ?_
     refine then_ret ?_
     refine block_ret ?_
     refine then_ret ?_
     have bl := bj m    ax
     exact res_all (vs := [.bool false]) rfl ay ⟨res_of_tmp ay rfl, trivial⟩ bl
    ·have bm := av.2 ⟨⟨(b_not_f (b_or_f (b_or_f hc).1).1), (of_decide_eq_false (b_or_f (b_or_f hc).1).2)⟩, ((b_and_f (b_or_f hc).2).imp (fun h => (of_decide_eq_false h)) (fun h => ⟨(b_or_f h).1, (of_decide_eq_false (b_or_f h).2)⟩))⟩
     clear hc
     refine wp_skip ?_
     refine block_normal ?_
     refine then_normal (wp_region_lit ?_)
     refine sqv aa rfl (r_move (aa.get rfl)) fun _ az => ?_
     obtain ⟨bn, bo⟩ := bm
     refine sqv az rfl (r_addI (az.get rfl) rfl bn) fun _ aA => sqv aA rfl (r_assign (aA.get rfl)) fun _ bp => sq_end ?_
     have bq := bp.kp [(0, Sl.v f), (3, .int .i64 (b + 1))] rfl
     have aB := bo m    ax
     have br := bq.kp [(0, Sl.v f), (3, .int .i64 (b + 1))] rfl
     exact then_normal ⟨(b + 1, m), ⟨br, rfl, aB.1⟩, aB.2⟩
  ·have bs := am.2 (of_decide_eq_false hc)
   clear hc
   refine wp_exit ?_
   refine then_exit ?_
   refine then_exit ?_
   refine block_hit ?_
   have bt := i.kp [] rfl
   refine then_normal (wp_seq (wp_region_lit ?_))
   refine sqv bt rfl (r_assign rfl) fun _ bu => sq_end ?_
   have aC := bu.kp [(2, .bool true)] rfl
   refine then_normal ?_
   refine wp_ret ?_
   exact res_all (vs := [.bool true]) rfl aC ⟨res_of_tmp aC rfl, trivial⟩ bs
end Go.Proofs.Yteohbfaechfliaa
