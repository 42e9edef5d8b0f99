/-
  PRINTED BY PROGRAM: for each function its condition (vc), and that this suffices (ok).
-/
import Derived.Test.YtghmgfkdnolcdaaQApplyNoneGT
namespace Go.Proofs.Ytghmgfkdnolcdaa
open Go.RowKit
set_option linter.unusedVariables false
set_option maxHeartbeats 1000000
set_option maxRecDepth 10000
def dom_New.vc (b : Int) (c : Str) (d : Str) (f : Sl) (g : Sl) (R : Value → World → Prop) (w : World) : Prop :=
∀ (j : World) (h : Nat), New w h j → Chg [] w j →
CallK Try.prog 31 #[.agg #[.int .i64 b, .string (Bs c), .string (Bs d), Sl.v f, Sl.v g]] j [h] (fun v n => ∃ (l : Bool), v = .bool l ∧
((l = false) →
R (.tuple #[.pointer none, .int .i64 1]) n) ∧
((l = true) →
RunK Try.prog (Instr.makeMap 68 none) n [h] (fun v m => ∃ (k : Option Nat), v = .map k ∧
∀ (i : World) (a : Nat), New m a i → Chg [] m i →
∀ (_ : Box i a 71 [Sl.v Sl.nil, .map k]),
CallK Try.prog 44 #[.pointer (some (⟨a, 0, none⟩ : Addr)), .agg #[.int .i64 b, .string (Bs c), .string (Bs d), Sl.v f, Sl.v g], .int .i64 (-1)] i [h] (fun v s => ∃ (t : Int), v = .int .i64 t ∧
R (.tuple #[.pointer (some (⟨a, 0, none⟩ : Addr)), .int .i64 0]) s))))
theorem dom_New.ok (b : Int) (c : Str) (d : Str) (f : Sl) (g : Sl) {R : Value → World → Prop} {w : World} (u : dom_New.vc b c d f g R w) : Calls Try.prog 13 #[.agg #[.int .i64 b, .string (Bs c), .string (Bs d), Sl.v f, Sl.v g]] w (Ret R) := by
 refine enter [.agg #[.int .i64 b, .string (Bs c), .string (Bs d), Sl.v f, Sl.v g]] Try.func13 rfl Try.ntmps13 rfl ?_
 intro a0 x
 unfold dom_New.vc at u
 refine wp_seq (wp_region_lit ?_)
 refine sq (opk_new (fun B => .pointer (some ⟨B, 0, none⟩)) x rfl (r_box (cs := [.int .i64 b, .string (Bs c), .string (Bs d), Sl.v f, Sl.v g]) (x.get rfl) rfl) fun a4 j h aq ar y au _ => ?_)
 have av : New w h j := ar
 have ax : Chg [] w j := aq
 refine sqv au rfl (r_assign rfl) fun _ ay => ?_
 refine sqv ay rfl (r_assign rfl) fun _ az => ?_
 refine sq_end ?_
 have z := az.keep [(1, .pointer (some (⟨h, 0, none⟩ : Addr)))] ⟨rfl, trivial⟩
 refine then_normal (wp_seq (wp_seq (wp_region_lit ?_)))
 refine sqv z rfl (r_loadN (cs := [.int .i64 b, .string (Bs c), .string (Bs d), Sl.v f, Sl.v g]) Try.underlying29 rfl ti_29 (z.get rfl) (y.part 0 _ rfl)) fun _ aa => ?_
 have aA := u j h av  ax
 refine sq (opk_call aa rfl (r_call (args := #[.agg #[.int .i64 b, .string (Bs c), .string (Bs d), Sl.v f, Sl.v g]]) Try.func31 (by decide) rfl (map_arr (ml_cons (aa.get rfl) ml_nil)) rfl) aA fun a2 a3 n ab _ aB a5 aC => ?_)
 obtain ⟨l, rfl, ad⟩ := aC
 have aD := y.kept aB (.head _)
 refine sqv ab rfl (r_not (ab.get rfl)) fun _ aF => ?_
 refine sq_end ?_
 have o := aF.keep [(1, .pointer (some (⟨h, 0, none⟩ : Addr))), (7, .bool (!l))] ⟨rfl, rfl, trivial⟩
 refine then_normal ?_
 refine wp_cond_split (o.get rfl) (fun hc => ?_) (fun hc => ?_)
 ·have aG := ad.1 (b_not_t hc)
  clear hc
  refine wp_seq (wp_region_lit ?_)
  refine sqv o rfl (r_assign rfl) fun _ aH => ?_
  refine sqv aH rfl (r_assign rfl) fun _ aI => ?_
  refine sq_end ?_
  have p := aI.keep [(2, .pointer none), (3, .int .i64 1)] ⟨rfl, rfl, trivial⟩
  refine then_normal ?_
  refine wp_ret ?_
  refine then_ret ?_
  exact res_all (vs := [.pointer none, .int .i64 1]) rfl p ⟨res_of_tmp p rfl, res_of_tmp p rfl, trivial⟩ aG
 ·have aJ := ad.2 (b_not_f hc)
  clear hc
  refine wp_skip ?_
  refine then_normal (wp_seq (wp_region_lit ?_))
  refine sq (opk_run o rfl (fun _ _ hr => r_makeMap hr) aJ fun a6 a7 m af _ aK a8 aL => ?_)
  obtain ⟨k, rfl, aM⟩ := aL
  have ag := aD.kept aK (.head _)
  refine sqv af rfl (r_build (vs := #[(1, .map k)]) (cells := #[Sl.v Sl.nil, .map k]) (map_arr2 (ml2_cons (af.get rfl) (ml2_nil))) ti_71 Try.underlying71 pl_71 (by kernel_rfl)) fun _ ah => ?_
  refine sq (opk_new (fun B => .pointer (some ⟨B, 0, none⟩)) ah rfl (r_box (cs := [Sl.v Sl.nil, .map k]) (ah.get rfl) rfl) fun a9 i a ai aj aN ak _ => ?_)
  have ba : h ≠ a := Nat.ne_of_lt (Nat.lt_of_lt_of_le ag.lt aj.ge)
  have aO : New m a i := aj
  have al := ag.ext ai
  have aP : Chg [] m i := ai
  refine sqv ak rfl (r_assign (ak.get rfl)) fun _ aQ => ?_
  refine sq_end ?_
  have am := aQ.keep [(1, .pointer (some (⟨h, 0, none⟩ : Addr))), (4, .pointer (some (⟨a, 0, none⟩ : Addr)))] ⟨rfl, rfl, trivial⟩
  refine then_normal (wp_seq (wp_region_lit ?_))
  refine sqv am rfl (r_move (am.get rfl)) fun _ an => ?_
  refine sqv an rfl (r_loadN (cs := [.int .i64 b, .string (Bs c), .string (Bs d), Sl.v f, Sl.v g]) Try.underlying29 rfl ti_29 (an.get rfl) (al.part 0 _ rfl)) fun _ q => ?_
  have aR := aM i a aO  aP
  have aS := aR aN
  refine sq (opk_call q rfl (r_call (args := #[.pointer (some (⟨a, 0, none⟩ : Addr)), .agg #[.int .i64 b, .string (Bs c), .string (Bs d), Sl.v f, Sl.v g], .int .i64 (-1)]) Try.func44 (by decide) rfl (map_arr (ml_cons (q.get rfl) (ml_cons (q.get rfl) (ml_cons rfl ml_nil)))) rfl) aS fun bb bd s aT _ aU bf aV => ?_)
  obtain ⟨t, rfl, aX⟩ := aV
  have bg := al.kept aU (.head _)
  refine sq_end ?_
  have ao := aT.keep [(4, .pointer (some (⟨a, 0, none⟩ : Addr)))] ⟨rfl, trivial⟩
  refine then_normal (wp_seq (wp_region_lit ?_))
  refine sqv ao rfl (r_move (ao.get rfl)) fun _ ap => ?_
  refine sqv ap rfl (r_assign (ap.get rfl)) fun _ aY => ?_
  refine sqv aY rfl (r_assign rfl) fun _ aZ => ?_
  refine sq_end ?_
  have r := aZ.keep [(2, .pointer (some (⟨a, 0, none⟩ : Addr))), (3, .int .i64 0)] ⟨rfl, rfl, trivial⟩
  refine then_normal ?_
  refine wp_ret ?_
  exact res_all (vs := [.pointer (some (⟨a, 0, none⟩ : Addr)), .int .i64 0]) rfl r ⟨res_of_tmp r rfl, res_of_tmp r rfl, trivial⟩ aX
def dom_Dom_Insert.vc (i : Addr) (c : Int) (j : Int) (d : Int) (p : Int) (r : Str) (s : Str) (k : Sl) (f : Sl) (R : Value → World → Prop) (w : World) : Prop :=
∀ (w7 : World) (l : Nat), New w l w7 → Chg [] w w7 →
CallK Try.prog 45 #[.pointer (some i), .int .i64 j] w7 [l] (fun v a3 => ∃ (m : Option Addr), v = .pointer m ∧
CallK Try.prog 23 #[.pointer (some i), .int .i64 c] a3 [l] (fun v ad => ∃ (q : Bool), v = .bool q ∧
∃ aj : Bool → World → Prop,
(((((q = true) ∨ (c < 1)) ∨ (1048576 < c)) →
aj ((q || (decide (c < 1))) || (decide (1048576 < c))) ad) ∧
((((q = false) ∧ (¬ (c < 1))) ∧ (¬ (1048576 < c))) →
∀ (u : World), Chg [] ad u →
∀ (t : Nat) (_ : ad.heap.size ≤ t) (_ : (((¬ (0 < (f.n : Int))) ∧ (¬ (0 < (k.n : Int))))) → Box u t 29 [.int .i64 p, .string (Bs r), .string (Bs s), Sl.v k, Sl.v f]),
∃ (af : Bool), ((((¬ (0 < (f.n : Int))) ∧ (¬ (0 < (k.n : Int))))) → Calls Try.prog 31 #[.agg #[.int .i64 1, .string (Bs ([] : Str)), .string (Bs ([] : Str)), Sl.v Sl.nil, Sl.v (Sl.mk (some ⟨t, 0, none⟩) 1 1)]] u (Ret fun v w' => Ext u w' ∧ v = .bool af)) ∧
(∀ ak : World, Ext u ak →
aj (((decide (0 < (f.n : Int))) || (decide (0 < (k.n : Int)))) || (!af)) ak))) ∧
(∀ (x : Bool) (y : World), aj x y →
((x = true) →
R (.int .i64 1) y) ∧
((x = false) →
∃ (al : Sl), (y.cell? (i.add 0) = some (Sl.v al)) ∧
((300 ≤ (al.n : Int)) →
R (.int .i64 2) y) ∧
((¬ (300 ≤ (al.n : Int))) →
(((Option.isNone m) = true) →
R (.int .i64 3) y) ∧
(((Option.isNone m) = false) →
CallK Try.prog 46 #[.pointer m, .int .i64 p] y [l] (fun v am => ∃ (an : Bool), v = .bool an ∧
((an = false) →
R (.int .i64 4) am) ∧
((an = true) →
∃ aJ : Addr, (((¬ (d < 0))) → m = some aJ) ∧
∃ (ao : Sl), (((¬ (d < 0))) → am.cell? (aJ.add 7) = some (Sl.v ao)) ∧
(((d < 0) ∨ ((ao.n : Int) < d)) →
R (.int .i64 5) am) ∧
(((¬ (d < 0)) ∧ (¬ ((ao.n : Int) < d))) →
CallK Try.prog 47 #[.pointer (some i), .int .i64 j] am [l] (fun v aK => ∃ (ap : Int), v = .int .i64 ap ∧
((60 ≤ ap) →
R (.int .i64 2) aK) ∧
((¬ (60 ≤ ap)) →
CallK Try.prog 48 #[.pointer (some i), .int .i64 c, .int .i64 j, .agg #[.int .i64 p, .string (Bs r), .string (Bs s), Sl.v k, Sl.v f]] aK [l] (fun v a4 => v = .tuple #[] ∧
CallK Try.prog 45 #[.pointer (some i), .int .i64 j] a4 [] (fun v ag => ∃ (aq : Option Addr), v = .pointer aq ∧
∃ aL : Addr, (aq = some aL) ∧
∃ (ax : Sl), (ag.cell? (aL.add 7) = some (Sl.v ax)) ∧
∀ (z : World) (ab : Nat), New ag ab z → Chg [] ag z →
∀ (_ : Box z ab 3 [.int .i64 c]),
CallK Try.prog 49 #[Sl.v ax, .int .i64 d, Sl.v (Sl.mk (some ⟨ab, 0, none⟩) 1 1)] z [] (fun v aM => ∃ (ar : Sl), v = Sl.v ar ∧
∃ aN : Addr, (aq = some aN) ∧
∃ (ah ay : Nat) (aO : TypeId) (az : List Value), (aN.add 7) = ⟨ah, ay, none⟩ ∧ Box aM ah aO az ∧ ay + 1 ≤ az.length ∧ (∀ b ∈ [], b ≠ ah) ∧
(∀ au : World, Chg [ah] aM au → Box au ah aO (putAt az ay [Sl.v ar]) →
R (.int .i64 0) au)))))))))))))))
theorem dom_Dom_Insert.ok (i : Addr) (c : Int) (j : Int) (d : Int) (p : Int) (r : Str) (s : Str) (k : Sl) (f : Sl) {R : Value → World → Prop} {w : World} (a5 : dom_Dom_Insert.vc i c j d p r s k f R w) : Calls Try.prog 14 #[.pointer (some i), .int .i64 c, .int .i64 j, .int .i64 d, .agg #[.int .i64 p, .string (Bs r), .string (Bs s), Sl.v k, Sl.v f]] w (Ret R) := by
 refine enter [.pointer (some i), .int .i64 c, .int .i64 j, .int .i64 d, .agg #[.int .i64 p, .string (Bs r), .string (Bs s), Sl.v k, Sl.v f]] Try.func14 rfl Try.ntmps14 rfl ?_
 intro a0 a6
 unfold dom_Dom_Insert.vc at a5
 refine wp_seq (wp_region_lit ?_)
 refine sq (opk_new (fun B => .pointer (some ⟨B, 0, none⟩)) a6 rfl (r_box (cs := [.int .i64 p, .string (Bs r), .string (Bs s), Sl.v k, Sl.v f]) (a6.get rfl) rfl) fun a8 w7 l cF cG cH cI _ => ?_)
 have cJ : New w l w7 := cG
 have cK : Chg [] w w7 := cF
 refine sqv cI rfl (r_assign rfl) fun _ cL => ?_
 refine sq_end ?_
 have a7 := cL.keep [(0, .pointer (some i)), (1, .int .i64 c), (2, .int .i64 j), (3, .int .i64 d), (9, .pointer (some (⟨l, 0, none⟩ : Addr)))] ⟨rfl, rfl, rfl, rfl, rfl, trivial⟩
 refine then_normal (wp_seq (wp_region_lit ?_))
 refine sqv a7 rfl (r_move (a7.get rfl)) fun _ hA16 => ?_
 refine sqv hA16 rfl (r_move (hA16.get rfl)) fun _ aP => ?_
 have cM := a5 w7 l cJ  cK
 refine sq (opk_call aP rfl (r_call (args := #[.pointer (some i), .int .i64 j]) Try.func45 (by decide) rfl (map_arr (ml_cons (aP.get rfl) (ml_cons (aP.get rfl) ml_nil))) rfl) cM fun fp fq a3 a9 _ cN fr cO => ?_)
 obtain ⟨m, rfl, cP⟩ := cO
 have cQ := cH.kept cN (.head _)
 refine sqv a9 rfl (r_assign (a9.get rfl)) fun _ cR => ?_
 refine sq_end ?_
 have ba := cR.keep [(0, .pointer (some i)), (1, .int .i64 c), (2, .int .i64 j), (3, .int .i64 d), (9, .pointer (some (⟨l, 0, none⟩ : Addr))), (11, .pointer m)] ⟨rfl, rfl, rfl, rfl, rfl, rfl, trivial⟩
 refine then_normal (wp_seq (wp_block (wp_seq (wp_seq (wp_region_lit ?_)))))
 refine sqv ba rfl (r_move (ba.get rfl)) fun _ bb => ?_
 refine sqv bb rfl (r_move (bb.get rfl)) fun _ aQ => ?_
 refine sq (opk_call aQ rfl (r_call (args := #[.pointer (some i), .int .i64 c]) Try.func23 (by decide) rfl (map_arr (ml_cons (aQ.get rfl) (ml_cons (aQ.get rfl) ml_nil))) rfl) cP fun fs ft ad bd _ cS fu cT => ?_)
 obtain ⟨q, rfl, cU⟩ := cT
 have ai := cQ.kept cS (.head _)
 refine sqv bd rfl (r_move (bd.get rfl)) fun _ bf => ?_
 refine sq (opk_gval bf rfl rfl (g := true) (e := q) rfl (fun hg => r_move (bf.get rfl)) fun fv bg _ => ?_)
 refine sq (opk_gval bg rfl rfl (g := true) (e := q) rfl (fun hg => r_lss (cv_get (bg.get rfl) hg) rfl) fun fx aR _ => ?_)
 refine sqv aR rfl (r_pick_or (g := (true && (q == false))) (aR.get rfl) (aR.get rfl) (fun he => g_mkf rfl he)) fun _ bh => ?_
 refine sqv bh rfl (r_move (bh.get rfl)) fun _ bi => ?_
 refine sq (opk_gval bi rfl rfl (g := true) (e := (q || (decide (c < 1)))) rfl (fun hg => r_move (bi.get rfl)) fun fy bj _ => ?_)
 refine sq (opk_gval bj rfl rfl (g := true) (e := (q || (decide (c < 1)))) rfl (fun hg => r_gtr (cv_get (bj.get rfl) hg) rfl) fun fz aS _ => ?_)
 refine sqv aS rfl (r_pick_or (g := (true && ((q || (decide (c < 1))) == false))) (aS.get rfl) (aS.get rfl) (fun he => g_mkf rfl he)) fun _ bk => ?_
 refine sqv bk rfl (r_assign (bk.get rfl)) fun _ cX => ?_
 refine sq_end ?_
 have aA := cX.keep [(0, .pointer (some i)), (1, .int .i64 c), (2, .int .i64 j), (3, .int .i64 d), (9, .pointer (some (⟨l, 0, none⟩ : Addr))), (11, .pointer m), (15, .bool ((q || (decide (c < 1))) || (decide (1048576 < c))))] ⟨rfl, rfl, rfl, rfl, rfl, rfl, rfl, trivial⟩
 refine then_normal ?_
 obtain ⟨aj, bl, cY⟩ := cU
 refine wp_meet (fun a w => ∃ x : Bool, Ag 96 a [(0, .pointer (some i)), (1, .int .i64 c), (2, .int .i64 j), (3, .int .i64 d), (9, .pointer (some (⟨l, 0, none⟩ : Addr))), (11, .pointer m), (15, .bool x)] ∧ Box w l 29 [.int .i64 p, .string (Bs r), .string (Bs s), Sl.v k, Sl.v f] ∧ aj x w) ?_ ?_
 ·refine wp_cond_split (aA.get rfl) (fun hc => ?_) (fun hc => ?_)
  ·have cZ := bl.1 ((b_or_t hc).imp (fun h => ((b_or_t h).imp (fun h => h) (fun h => (of_decide_eq_true h)))) (fun h => (of_decide_eq_true h)))
   clear hc
   refine wp_skip ?_
   have c0 := aA.keep [(0, .pointer (some i)), (1, .int .i64 c), (2, .int .i64 j), (3, .int .i64 d), (9, .pointer (some (⟨l, 0, none⟩ : Addr))), (11, .pointer m), (15, .bool ((q || (decide (c < 1))) || (decide (1048576 < c))))] ⟨rfl, rfl, rfl, rfl, rfl, rfl, rfl, trivial⟩
   exact then_normal ⟨((q || (decide (c < 1))) || (decide (1048576 < c))), c0, ai, cZ⟩
  ·have c1 := bl.2 ⟨⟨(b_or_f (b_or_f hc).1).1, (of_decide_eq_false (b_or_f (b_or_f hc).1).2)⟩, (of_decide_eq_false (b_or_f hc).2)⟩
   clear hc
   refine wp_region_lit ?_
   refine sqv aA rfl (r_fieldAddr (aA.get rfl) Try.underlying29 rfl ti_27 (by decide)) fun _ bm => ?_
   refine sqv bm rfl (r_load1 Try.underlying27 rfl (bm.get rfl) (ai.cell 4 _ rfl)) fun _ bn => ?_
   refine sqv bn rfl (r_len (bn.get rfl) Try.underlying27) fun _ bo => ?_
   refine sqv bo rfl (r_gtr (bo.get rfl) rfl) fun _ bp => ?_
   refine sqv bp rfl (r_move (bp.get rfl)) fun _ bq => ?_
   refine sq (opk_gval bq rfl rfl (g := true) (e := (decide (0 < (f.n : Int)))) rfl (fun hg => r_fieldAddr (bq.get rfl) Try.underlying29 rfl ti_26 (by decide)) fun fA br _ => ?_)
   refine sq (opk_gval br rfl rfl (g := true) (e := (decide (0 < (f.n : Int)))) rfl (fun hg => r_load1 Try.underlying26 rfl (cv_get (br.get rfl) hg) (ai.cell 3 _ rfl)) fun fB bs _ => ?_)
   refine sq (opk_gval bs rfl rfl (g := true) (e := (decide (0 < (f.n : Int)))) rfl (fun hg => r_len (cv_get (bs.get rfl) hg) Try.underlying26) fun fC bt _ => ?_)
   refine sq (opk_gval bt rfl rfl (g := true) (e := (decide (0 < (f.n : Int)))) rfl (fun hg => r_gtr (cv_get (bt.get rfl) hg) rfl) fun fD aT _ => ?_)
   refine sqv aT rfl (r_pick_or (g := (true && ((decide (0 < (f.n : Int))) == false))) (aT.get rfl) (aT.get rfl) (fun he => g_mkf rfl he)) fun _ bu => ?_
   refine sqv bu rfl (r_move (bu.get rfl)) fun _ bv => ?_
   refine sq (opk_gval bv rfl rfl (g := true) (e := ((decide (0 < (f.n : Int))) || (decide (0 < (k.n : Int))))) rfl (fun hg => r_loadN (cs := [.int .i64 p, .string (Bs r), .string (Bs s), Sl.v k, Sl.v f]) Try.underlying29 rfl ti_29 (bv.get rfl) (ai.part 0 _ rfl)) fun fF bx _ => ?_)
   refine sq (opk_gnew2 (fun B => .slice (some ⟨B, 0, none⟩) 1 1) bx rfl rfl (g := true) (e := ((decide (0 < (f.n : Int))) || (decide (0 < (k.n : Int))))) rfl (fun hg => r_buildSlice (vs := #[(0, .agg #[.int .i64 p, .string (Bs r), .string (Bs s), Sl.v k, Sl.v f])]) (cs := [.int .i64 p, .string (Bs r), .string (Bs s), Sl.v k, Sl.v f]) (map_arr2 (ml2_cons (cv_get (bx.get rfl) hg) (ml2_nil))) Try.underlying27 ti_29 rfl rfl (by kernel_rfl)) fun fG u t bz bA c2 bB _ => ?_)
   have c3 := fun hg => (c2 hg).2
   have fH : l ≠ t := Nat.ne_of_lt (Nat.lt_of_lt_of_le ai.lt bA)
   have c4 : ad.heap.size ≤ t := bA
   have c5 := ai.ext bz
   have c6 : Chg [] ad u := bz
   refine sq (opk_gval bB rfl rfl (g := true) (e := ((decide (0 < (f.n : Int))) || (decide (0 < (k.n : Int))))) rfl (fun hg => r_build (vs := #[(0, .int .i64 1), (4, Sl.v (Sl.mk (some ⟨t, 0, none⟩) 1 1))]) (cells := #[.int .i64 1, .string (Bs ([] : Str)), .string (Bs ([] : Str)), Sl.v Sl.nil, Sl.v (Sl.mk (some ⟨t, 0, none⟩) 1 1)]) (map_arr2 (ml2_cons rfl (ml2_cons (cv_get (bB.get rfl) hg) (ml2_nil)))) ti_29 Try.underlying29 pl_29 (by kernel_rfl)) fun fI bC _ => ?_)
   have c7 := c1 u    c6
   have c8 := c7 t c4 (fun hp => c3 ((g_mkf rfl (b_or_mkf ⟨(decide_eq_false hp.1), (decide_eq_false hp.2)⟩))))
   obtain ⟨af, c9, da⟩ := c8
   refine sq (opk_gcall bC rfl rfl (g := true) (e := ((decide (0 < (f.n : Int))) || (decide (0 < (k.n : Int))))) rfl (fun hg => r_call (args := #[.agg #[.int .i64 1, .string (Bs ([] : Str)), .string (Bs ([] : Str)), Sl.v Sl.nil, Sl.v (Sl.mk (some ⟨t, 0, none⟩) 1 1)]]) Try.func31 (by decide) rfl (map_arr (ml_cons (cv_get (bC.get rfl) hg) ml_nil)) rfl) (fun hg => c9 ⟨(of_decide_eq_false (b_or_f (g_f hg)).1), (of_decide_eq_false (b_or_f (g_f hg)).2)⟩) fun fJ ak bD _ aU => ?_)
   have db := c5.ext aU
   have fK : Chg [] u ak := aU
   have dc := da ak aU
   refine sq (opk_gval bD rfl rfl (g := true) (e := ((decide (0 < (f.n : Int))) || (decide (0 < (k.n : Int))))) rfl (fun hg => r_not (cv_get (bD.get rfl) hg)) fun fL aV _ => ?_)
   refine sqv aV rfl (r_pick_or (g := (true && (((decide (0 < (f.n : Int))) || (decide (0 < (k.n : Int)))) == false))) (aV.get rfl) (aV.get rfl) (fun he => g_mkf rfl he)) fun _ bF => ?_
   refine sqv bF rfl (r_assign (bF.get rfl)) fun _ dd => ?_
   refine sq_end ?_
   have df := dd.keep [(0, .pointer (some i)), (1, .int .i64 c), (2, .int .i64 j), (3, .int .i64 d), (9, .pointer (some (⟨l, 0, none⟩ : Addr))), (11, .pointer m), (15, .bool (((decide (0 < (f.n : Int))) || (decide (0 < (k.n : Int)))) || (!af)))] ⟨rfl, rfl, rfl, rfl, rfl, rfl, rfl, trivial⟩
   have dg := df.keep [(0, .pointer (some i)), (1, .int .i64 c), (2, .int .i64 j), (3, .int .i64 d), (9, .pointer (some (⟨l, 0, none⟩ : Addr))), (11, .pointer m), (15, .bool (((decide (0 < (f.n : Int))) || (decide (0 < (k.n : Int)))) || (!af)))] ⟨rfl, rfl, rfl, rfl, rfl, rfl, rfl, trivial⟩
   exact then_normal ⟨(((decide (0 < (f.n : Int))) || (decide (0 < (k.n : Int)))) || (!af)), dg, db, dc⟩
 ·intro fM y hm
  obtain ⟨x, aB, bG, dh⟩ := hm
  have bH := cY x y dh
  refine then_normal ?_
  refine wp_cond_split (aB.get rfl) (fun hc => ?_) (fun hc => ?_)
  ·have di := bH.1 hc
   clear hc
   refine wp_seq (wp_region_lit ?_)
   refine sqv aB rfl (r_assign rfl) fun _ dj => ?_
   refine sq_end ?_
   have bI := dj.keep [(10, .int .i64 1)] ⟨rfl, trivial⟩
   refine then_normal ?_
   refine wp_ret ?_
   refine block_ret ?_
   refine then_ret ?_
   exact res_all (vs := [.int .i64 1]) rfl bI ⟨res_of_tmp bI rfl, trivial⟩ di
  ·have dk := bH.2 hc
   clear hc
   refine wp_seq (wp_region_lit ?_)
   refine sqv aB rfl (r_move (aB.get rfl)) fun _ bJ => ?_
   refine sqv bJ rfl (r_nilCheck (bJ.get rfl)) fun _ bK => ?_
   refine sqv bK rfl (r_fieldAddr (bK.get rfl) Try.underlying71 rfl ti_69 (by decide)) fun _ bL => ?_
   obtain ⟨al, dl, bM⟩ := dk
   refine sqv bL rfl (r_load1 Try.underlying69 rfl (bL.get rfl) dl) fun _ bN => ?_
   refine sqv bN rfl (r_len (bN.get rfl) Try.underlying69) fun _ bO => ?_
   refine sqv bO rfl (r_geq (bO.get rfl) rfl) fun _ bP => ?_
   refine sqv bP rfl (r_assign (bP.get rfl)) fun _ dm => ?_
   refine sq_end ?_
   have aC := dm.keep [(0, .pointer (some i)), (1, .int .i64 c), (2, .int .i64 j), (3, .int .i64 d), (9, .pointer (some (⟨l, 0, none⟩ : Addr))), (11, .pointer m), (44, .bool (decide (300 ≤ (al.n : Int))))] ⟨rfl, rfl, rfl, rfl, rfl, rfl, rfl, trivial⟩
   refine then_normal ?_
   refine wp_cond_split (aC.get rfl) (fun hc => ?_) (fun hc => ?_)
   ·have dn := bM.1 (of_decide_eq_true hc)
    clear hc
    refine wp_seq (wp_region_lit ?_)
    refine sqv aC rfl (r_assign rfl) fun _ dp => ?_
    refine sq_end ?_
    have bQ := dp.keep [(10, .int .i64 2)] ⟨rfl, trivial⟩
    refine then_normal ?_
    refine wp_ret ?_
    refine block_ret ?_
    refine then_ret ?_
    exact res_all (vs := [.int .i64 2]) rfl bQ ⟨res_of_tmp bQ rfl, trivial⟩ dn
   ·have bR := bM.2 (of_decide_eq_false hc)
    clear hc
    refine wp_seq (wp_region_lit ?_)
    refine sqv aC rfl (r_move (aC.get rfl)) fun _ bS => ?_
    refine sqv bS rfl (r_pnil (o := m) (bS.get rfl) rfl Try.underlying73) fun _ bT => ?_
    refine sqv bT rfl (r_assign (bT.get rfl)) fun _ dq => ?_
    refine sq_end ?_
    have aD := dq.keep [(0, .pointer (some i)), (1, .int .i64 c), (2, .int .i64 j), (3, .int .i64 d), (9, .pointer (some (⟨l, 0, none⟩ : Addr))), (11, .pointer m), (51, .bool (Option.isNone m))] ⟨rfl, rfl, rfl, rfl, rfl, rfl, rfl, trivial⟩
    refine then_normal ?_
    refine wp_cond_split (aD.get rfl) (fun hc => ?_) (fun hc => ?_)
    ·have dr := bR.1 hc
     clear hc
     refine wp_seq (wp_region_lit ?_)
     refine sqv aD rfl (r_assign rfl) fun _ ds => ?_
     refine sq_end ?_
     have bU := ds.keep [(10, .int .i64 3)] ⟨rfl, trivial⟩
     refine then_normal ?_
     refine wp_ret ?_
     refine block_ret ?_
     refine then_ret ?_
     exact res_all (vs := [.int .i64 3]) rfl bU ⟨res_of_tmp bU rfl, trivial⟩ dr
    ·have dt := bR.2 hc
     clear hc
     refine wp_seq (wp_region_lit ?_)
     refine sqv aD rfl (r_move (aD.get rfl)) fun _ bV => ?_
     refine sqv bV rfl (r_fieldAddr (bV.get rfl) Try.underlying29 rfl ti_3 (by decide)) fun _ bX => ?_
     refine sqv bX rfl (r_load1 Try.underlying3 rfl (bX.get rfl) (bG.cell 0 _ rfl)) fun _ aX => ?_
     refine sq (opk_call aX rfl (r_call (args := #[.pointer m, .int .i64 p]) Try.func46 (by decide) rfl (map_arr (ml_cons (aX.get rfl) (ml_cons (aX.get rfl) ml_nil))) rfl) dt fun fN fO am bY _ du fP dv => ?_)
     obtain ⟨an, rfl, bZ⟩ := dv
     have dx := bG.kept du (.head _)
     refine sqv bY rfl (r_not (bY.get rfl)) fun _ b0 => ?_
     refine sqv b0 rfl (r_assign (b0.get rfl)) fun _ dy => ?_
     refine sq_end ?_
     have aF := dy.keep [(0, .pointer (some i)), (1, .int .i64 c), (2, .int .i64 j), (3, .int .i64 d), (9, .pointer (some (⟨l, 0, none⟩ : Addr))), (11, .pointer m), (54, .bool (!an))] ⟨rfl, rfl, rfl, rfl, rfl, rfl, rfl, trivial⟩
     refine then_normal ?_
     refine wp_cond_split (aF.get rfl) (fun hc => ?_) (fun hc => ?_)
     ·have dz := bZ.1 (b_not_t hc)
      clear hc
      refine wp_seq (wp_region_lit ?_)
      refine sqv aF rfl (r_assign rfl) fun _ dA => ?_
      refine sq_end ?_
      have b1 := dA.keep [(10, .int .i64 4)] ⟨rfl, trivial⟩
      refine then_normal ?_
      refine wp_ret ?_
      refine block_ret ?_
      refine then_ret ?_
      exact res_all (vs := [.int .i64 4]) rfl b1 ⟨res_of_tmp b1 rfl, trivial⟩ dz
     ·have dB := bZ.2 (b_not_f hc)
      clear hc
      refine wp_seq (wp_region_lit ?_)
      refine sqv aF rfl (r_move (aF.get rfl)) fun _ b2 => ?_
      refine sqv b2 rfl (r_lss (b2.get rfl) rfl) fun _ b3 => ?_
      refine sqv b3 rfl (r_move (b3.get rfl)) fun _ b4 => ?_
      refine sq (opk_gval b4 rfl rfl (g := true) (e := (decide (d < 0))) rfl (fun hg => r_move (b4.get rfl)) fun fQ b5 _ => ?_)
      refine sq (opk_gval b5 rfl rfl (g := true) (e := (decide (d < 0))) rfl (fun hg => r_move (b5.get rfl)) fun fR b6 _ => ?_)
      obtain ⟨aJ, dC, dD⟩ := dB
      refine sq (opk_gval b6 rfl rfl (g := true) (e := (decide (d < 0))) rfl (fun hg => r_nilCheckP (((cv_get (b6.get rfl) hg)).trans (congrArg Value.pointer (dC (of_decide_eq_false (g_f hg)))))) fun fS b7 _ => ?_)
      refine sq (opk_gval b7 rfl rfl (g := true) (e := (decide (d < 0))) rfl (fun hg => r_fieldAddr (cv_get (b7.get rfl) hg) Try.underlying76 rfl ti_36 (by decide)) fun fT b8 _ => ?_)
      obtain ⟨ao, dF, b9⟩ := dD
      refine sq (opk_gval b8 rfl rfl (g := true) (e := (decide (d < 0))) rfl (fun hg => r_load1 Try.underlying36 rfl (cv_get (b8.get rfl) hg) (dF (of_decide_eq_false (g_f hg)))) fun fU ca _ => ?_)
      refine sq (opk_gval ca rfl rfl (g := true) (e := (decide (d < 0))) rfl (fun hg => r_len (cv_get (ca.get rfl) hg) Try.underlying36) fun fV aY _ => ?_)
      refine sq (opk_gval aY rfl rfl (g := true) (e := (decide (d < 0))) rfl (fun hg => r_gtr (cv_get (aY.get rfl) hg) (cv_get (aY.get rfl) hg)) fun fX aZ _ => ?_)
      refine sqv aZ rfl (r_pick_or (g := (true && ((decide (d < 0)) == false))) (aZ.get rfl) (aZ.get rfl) (fun he => g_mkf rfl he)) fun _ cb => ?_
      refine sqv cb rfl (r_assign (cb.get rfl)) fun _ dG => ?_
      refine sq_end ?_
      have aG := dG.keep [(0, .pointer (some i)), (1, .int .i64 c), (2, .int .i64 j), (3, .int .i64 d), (9, .pointer (some (⟨l, 0, none⟩ : Addr))), (60, .bool ((decide (d < 0)) || (decide ((ao.n : Int) < d))))] ⟨rfl, rfl, rfl, rfl, rfl, rfl, trivial⟩
      refine then_normal ?_
      refine wp_cond_split (aG.get rfl) (fun hc => ?_) (fun hc => ?_)
      ·have dH := b9.1 ((b_or_t hc).imp (fun h => (of_decide_eq_true h)) (fun h => (of_decide_eq_true h)))
       clear hc
       refine wp_seq (wp_region_lit ?_)
       refine sqv aG rfl (r_assign rfl) fun _ dI => ?_
       refine sq_end ?_
       have cc := dI.keep [(10, .int .i64 5)] ⟨rfl, trivial⟩
       refine then_normal ?_
       refine wp_ret ?_
       refine block_ret ?_
       refine then_ret ?_
       exact res_all (vs := [.int .i64 5]) rfl cc ⟨res_of_tmp cc rfl, trivial⟩ dH
      ·have dJ := b9.2 ⟨(of_decide_eq_false (b_or_f hc).1), (of_decide_eq_false (b_or_f hc).2)⟩
       clear hc
       refine wp_seq (wp_region_lit ?_)
       refine sqv aG rfl (r_move (aG.get rfl)) fun _ cd => ?_
       refine sqv cd rfl (r_move (cd.get rfl)) fun _ hA215 => ?_
       refine sq (opk_call hA215 rfl (r_call (args := #[.pointer (some i), .int .i64 j]) Try.func47 (by decide) rfl (map_arr (ml_cons (hA215.get rfl) (ml_cons (hA215.get rfl) ml_nil))) rfl) dJ fun fY fZ aK cf _ dK f0 dL => ?_)
       obtain ⟨ap, rfl, cg⟩ := dL
       have ch := dx.kept dK (.head _)
       refine sqv cf rfl (r_geq (cf.get rfl) rfl) fun _ ci => ?_
       refine sqv ci rfl (r_assign (ci.get rfl)) fun _ dM => ?_
       refine sq_end ?_
       have aH := dM.keep [(0, .pointer (some i)), (1, .int .i64 c), (2, .int .i64 j), (3, .int .i64 d), (9, .pointer (some (⟨l, 0, none⟩ : Addr))), (72, .bool (decide (60 ≤ ap)))] ⟨rfl, rfl, rfl, rfl, rfl, rfl, trivial⟩
       refine then_normal ?_
       refine wp_cond_split (aH.get rfl) (fun hc => ?_) (fun hc => ?_)
       ·have dN := cg.1 (of_decide_eq_true hc)
        clear hc
        refine wp_seq (wp_region_lit ?_)
        refine sqv aH rfl (r_assign rfl) fun _ dO => ?_
        refine sq_end ?_
        have cj := dO.keep [(10, .int .i64 2)] ⟨rfl, trivial⟩
        refine then_normal ?_
        refine wp_ret ?_
        refine block_ret ?_
        refine then_ret ?_
        exact res_all (vs := [.int .i64 2]) rfl cj ⟨res_of_tmp cj rfl, trivial⟩ dN
       ·have dP := cg.2 (of_decide_eq_false hc)
        clear hc
        refine wp_skip ?_
        refine block_normal ?_
        refine then_normal (wp_seq (wp_region_lit ?_))
        refine sqv aH rfl (r_move (aH.get rfl)) fun _ ck => ?_
        refine sqv ck rfl (r_move (ck.get rfl)) fun _ cl => ?_
        refine sqv cl rfl (r_move (cl.get rfl)) fun _ cm => ?_
        refine sqv cm rfl (r_loadN (cs := [.int .i64 p, .string (Bs r), .string (Bs s), Sl.v k, Sl.v f]) Try.underlying29 rfl ti_29 (cm.get rfl) (ch.part 0 _ rfl)) fun _ av => ?_
        refine sq (opk_call av rfl (r_call (args := #[.pointer (some i), .int .i64 c, .int .i64 j, .agg #[.int .i64 p, .string (Bs r), .string (Bs s), Sl.v k, Sl.v f]]) Try.func48 (by decide) rfl (map_arr (ml_cons (av.get rfl) (ml_cons (av.get rfl) (ml_cons (av.get rfl) (ml_cons (av.get rfl) ml_nil))))) rfl) dP fun f1 f2 a4 dQ _ dR f3 dS => ?_)
        obtain ⟨rfl, dT⟩ := dS
        have f4 := ch.kept dR (.head _)
        refine sq_end ?_
        have cn := dQ.keep [(0, .pointer (some i)), (1, .int .i64 c), (2, .int .i64 j), (3, .int .i64 d)] ⟨rfl, rfl, rfl, rfl, trivial⟩
        refine then_normal (wp_seq (wp_region_lit ?_))
        refine sqv cn rfl (r_move (cn.get rfl)) fun _ co => ?_
        refine sqv co rfl (r_move (co.get rfl)) fun _ a1 => ?_
        refine sq (opk_call a1 rfl (r_call (args := #[.pointer (some i), .int .i64 j]) Try.func45 (by decide) rfl (map_arr (ml_cons (a1.get rfl) (ml_cons (a1.get rfl) ml_nil))) rfl) dT fun f5 f6 ag cp _ f7 f8 dU => ?_)
        obtain ⟨aq, rfl, dV⟩ := dU
        refine sqv cp rfl (r_assign (cp.get rfl)) fun _ dX => ?_
        refine sq_end ?_
        have cq := dX.keep [(1, .int .i64 c), (3, .int .i64 d), (11, .pointer aq)] ⟨rfl, rfl, rfl, trivial⟩
        refine then_normal (wp_seq (wp_region_lit ?_))
        refine sqv cq rfl (r_move (cq.get rfl)) fun _ cr => ?_
        refine sqv cr rfl (r_move (cr.get rfl)) fun _ ct => ?_
        obtain ⟨aL, dY, dZ⟩ := dV
        refine sqv ct rfl (r_nilCheckP (((ct.get rfl)).trans (congrArg Value.pointer dY))) fun _ cu => ?_
        refine sqv cu rfl (r_fieldAddr (cu.get rfl) Try.underlying76 rfl ti_36 (by decide)) fun _ cv => ?_
        obtain ⟨ax, d0, d1⟩ := dZ
        refine sqv cv rfl (r_load1 Try.underlying36 rfl (cv.get rfl) d0) fun _ cx => ?_
        refine sqv cx rfl (r_move (cx.get rfl)) fun _ cy => ?_
        refine sqv cy rfl (r_move (cy.get rfl)) fun _ cz => ?_
        refine sq (opk_new (fun B => .slice (some ⟨B, 0, none⟩) 1 1) cz rfl (r_buildSlice (vs := #[(0, .int .i64 c)]) (cs := [.int .i64 c]) (map_arr2 (ml2_cons (cz.get rfl) (ml2_nil))) Try.underlying36 ti_3 rfl rfl (by kernel_rfl)) fun f9 z ab d2 d3 d4 aI _ => ?_)
        have d5 : New ag ab z := d3
        have d6 : Chg [] ag z := d2
        have d7 := d1 z ab d5  d6
        have d8 := d7 d4
        refine sq (opk_call aI rfl (r_call (args := #[Sl.v ax, .int .i64 d, Sl.v (Sl.mk (some ⟨ab, 0, none⟩) 1 1)]) Try.func49 (by decide) rfl (map_arr (ml_cons (aI.get rfl) (ml_cons (aI.get rfl) (ml_cons (aI.get rfl) ml_nil)))) rfl) d8 fun ga gb aM cA _ gc gd d9 => ?_)
        obtain ⟨ar, rfl, fa⟩ := d9
        obtain ⟨aN, fb, fc⟩ := fa
        refine sqv cA rfl (r_nilCheckP (((cA.get rfl)).trans (congrArg Value.pointer fb))) fun _ cB => ?_
        refine sqv cB rfl (r_fieldAddr (cB.get rfl) Try.underlying76 rfl ti_36 (by decide)) fun _ a2 => ?_
        obtain ⟨ah, ay, aO, az, fd, cC, ff, gf, fg⟩ := fc
        refine sq (opk_store a2 cC (r_store (vs := [Sl.v ar]) (((a2.get rfl)).trans (congrArg (fun a => Value.pointer (some a)) fd)) (a2.get rfl) rfl ti_36 cC (Nat.ble_eq_true_of_le ff) (ones_all [Sl.v ar] rfl)) fun gg au fh fi fj => ?_)
        have fk := fg au fh fi
        refine sq_end ?_
        have fl := fj.keep [] trivial
        refine then_normal (wp_seq (wp_region_lit ?_))
        refine sqv fl rfl (r_assign rfl) fun _ fm => ?_
        refine sq_end ?_
        have cD := fm.keep [(10, .int .i64 0)] ⟨rfl, trivial⟩
        refine then_normal ?_
        refine wp_ret ?_
        exact res_all (vs := [.int .i64 0]) rfl cD ⟨res_of_tmp cD rfl, trivial⟩ fk
def dom_Dom_Set.vc (m : Addr) (p : Int) (f : Str) (c : Str) (R : Value → World → Prop) (w : World) : Prop :=
CallK Try.prog 45 #[.pointer (some m), .int .i64 p] w [] (fun v x => ∃ (d : Option Addr), v = .pointer d ∧
(((Option.isNone d) = true) →
R (.int .i64 3) x) ∧
(((Option.isNone d) = false) →
∃ ay : Addr, (d = some ay) ∧
∃ (y : Int), (x.cell? ((ay.add 2).add 0) = some (.int .i64 y)) ∧
((y ≠ 2) →
R (.int .i64 4) x) ∧
((¬ (y ≠ 2)) →
CallK Try.prog 50 #[.string (Bs f)] x [] (fun v az => ∃ (z : Bool), v = .bool z ∧
((z = false) →
R (.int .i64 8) az) ∧
((z = true) →
CallK Try.prog 51 #[.pointer d, .string (Bs f)] az [] (fun v k => ∃ (j : Int) (i : Bool), v = .tuple #[.int .i64 j, .bool i] ∧
∃ aA : Addr, (((¬ (4096 < (c.length : Int))) ∧ (i = false)) → d = some aA) ∧
∃ (aa : Sl), (((¬ (4096 < (c.length : Int))) ∧ (i = false)) → k.cell? ((aA.add 2).add 3) = some (Sl.v aa)) ∧
(((4096 < (c.length : Int)) ∨ ((i = false) ∧ (12 ≤ (aa.n : Int)))) →
R (.int .i64 2) k) ∧
(((¬ (4096 < (c.length : Int))) ∧ ((i = true) ∨ (¬ (12 ≤ (aa.n : Int))))) →
((i = false) →
∃ aB : Addr, (d = some aB) ∧
∃ (ah : Sl), (k.cell? ((aB.add 2).add 3) = some (Sl.v ah)) ∧
∀ (l : World) (q : Nat), New k q l → Chg [] k l →
∀ (_ : Box l q 65 [.string (Bs f), .string (Bs ([] : Str))]),
CallK Try.prog 52 #[Sl.v ah, .int .i64 j, Sl.v (Sl.mk (some ⟨q, 0, none⟩) 1 1)] l [] (fun v aC => ∃ (ab : Sl), v = Sl.v ab ∧
∃ aD : Addr, (d = some aD) ∧
∃ (s ai : Nat) (aF : TypeId) (aj : List Value), ((aD.add 2).add 3) = ⟨s, ai, none⟩ ∧ Box aC s aF aj ∧ ai + 1 ≤ aj.length ∧ (∀ b ∈ [], b ≠ s) ∧
(∀ r : World, Chg [s] aC r → Box r s aF (putAt aj ai [Sl.v ab]) →
∃ aG : Addr, (d = some aG) ∧
∃ (ak : Sl), (r.cell? ((aG.add 2).add 3) = some (Sl.v ak)) ∧
((0 : Int) ≤ j ∧ j < (ak.n : Int)) ∧ ∃ aH : Addr, ak.a = some aH ∧
∃ (t al : Nat) (aI : TypeId) (am : List Value), ((aH.add (j.toNat * 2)).add 1) = ⟨t, al, none⟩ ∧ Box r t aI am ∧ al + 1 ≤ am.length ∧ (∀ b ∈ [], b ≠ t) ∧
(∀ ad : World, Chg [t] r ad → Box ad t aI (putAt am al [.string (Bs c)]) →
R (.int .i64 0) ad)))) ∧
((i = true) →
∃ aJ : Addr, (d = some aJ) ∧
∃ (an : Sl), (k.cell? ((aJ.add 2).add 3) = some (Sl.v an)) ∧
((0 : Int) ≤ j ∧ j < (an.n : Int)) ∧ ∃ aK : Addr, an.a = some aK ∧
∃ (u ao : Nat) (aL : TypeId) (ap : List Value), ((aK.add (j.toNat * 2)).add 1) = ⟨u, ao, none⟩ ∧ Box k u aL ap ∧ ao + 1 ≤ ap.length ∧ (∀ b ∈ [], b ≠ u) ∧
(∀ af : World, Chg [u] k af → Box af u aL (putAt ap ao [.string (Bs c)]) →
R (.int .i64 0) af)))))))))
theorem dom_Dom_Set.ok (m : Addr) (p : Int) (f : Str) (c : Str) {R : Value → World → Prop} {w : World} (aV : dom_Dom_Set.vc m p f c R w) : Calls Try.prog 15 #[.pointer (some m), .int .i64 p, .string (Bs f), .string (Bs c)] w (Ret R) := by
 refine enter [.pointer (some m), .int .i64 p, .string (Bs f), .string (Bs c)] Try.func15 rfl Try.ntmps15 rfl ?_
 intro a0 cl
 unfold dom_Dom_Set.vc at aV
 refine wp_seq (wp_region_lit ?_)
 refine sqv cl rfl (r_assign rfl) fun _ cm => ?_
 refine sq_end ?_
 have aX := cm.keep [(0, .pointer (some m)), (1, .int .i64 p), (2, .string (Bs f)), (3, .string (Bs c))] ⟨rfl, rfl, rfl, rfl, trivial⟩
 refine then_normal (wp_seq (wp_region_lit ?_))
 refine sqv aX rfl (r_move (aX.get rfl)) fun _ aY => ?_
 refine sqv aY rfl (r_move (aY.get rfl)) fun _ aM => ?_
 refine sq (opk_call aM rfl (r_call (args := #[.pointer (some m), .int .i64 p]) Try.func45 (by decide) rfl (map_arr (ml_cons (aM.get rfl) (ml_cons (aM.get rfl) ml_nil))) rfl) aV fun dT dU x aZ _ dV dX cn => ?_)
 obtain ⟨d, rfl, ht12⟩ := cn
 refine sqv aZ rfl (r_assign (aZ.get rfl)) fun _ co => ?_
 refine sq_end ?_
 have a1 := co.keep [(2, .string (Bs f)), (3, .string (Bs c)), (9, .pointer d)] ⟨rfl, rfl, rfl, trivial⟩
 refine then_normal (wp_seq (wp_block (wp_seq (wp_region_lit ?_))))
 refine sqv a1 rfl (r_move (a1.get rfl)) fun _ a2 => ?_
 refine sqv a2 rfl (r_pnil (o := d) (a2.get rfl) rfl Try.underlying73) fun _ a3 => ?_
 refine sqv a3 rfl (r_assign (a3.get rfl)) fun _ cp => ?_
 refine sq_end ?_
 have aq := cp.keep [(2, .string (Bs f)), (3, .string (Bs c)), (9, .pointer d), (15, .bool (Option.isNone d))] ⟨rfl, rfl, rfl, rfl, trivial⟩
 refine then_normal ?_
 refine wp_cond_split (aq.get rfl) (fun hc => ?_) (fun hc => ?_)
 ·have cq := ht12.1 hc
  clear hc
  refine wp_seq (wp_region_lit ?_)
  refine sqv aq rfl (r_assign rfl) fun _ cr => ?_
  refine sq_end ?_
  have a4 := cr.keep [(8, .int .i64 3)] ⟨rfl, trivial⟩
  refine then_normal ?_
  refine wp_ret ?_
  refine block_ret ?_
  refine then_ret ?_
  exact res_all (vs := [.int .i64 3]) rfl a4 ⟨res_of_tmp a4 rfl, trivial⟩ cq
 ·have ct := ht12.2 hc
  clear hc
  refine wp_seq (wp_region_lit ?_)
  refine sqv aq rfl (r_move (aq.get rfl)) fun _ a5 => ?_
  obtain ⟨ay, cu, cv⟩ := ct
  refine sqv a5 rfl (r_nilCheckP (((a5.get rfl)).trans (congrArg Value.pointer cu))) fun _ a6 => ?_
  refine sqv a6 rfl (r_fieldAddr (a6.get rfl) Try.underlying76 rfl ti_29 (by decide)) fun _ a7 => ?_
  refine sqv a7 rfl (r_fieldAddr (a7.get rfl) Try.underlying29 rfl ti_3 (by decide)) fun _ a8 => ?_
  obtain ⟨y, cx, a9⟩ := cv
  refine sqv a8 rfl (r_load1 Try.underlying3 rfl (a8.get rfl) cx) fun _ ba => ?_
  refine sqv ba rfl (r_neq (ba.get rfl) rfl) fun _ bb => ?_
  refine sqv bb rfl (r_assign (bb.get rfl)) fun _ cy => ?_
  refine sq_end ?_
  have ar := cy.keep [(2, .string (Bs f)), (3, .string (Bs c)), (9, .pointer d), (18, .bool (decide (y ≠ 2)))] ⟨rfl, rfl, rfl, rfl, trivial⟩
  refine then_normal ?_
  refine wp_cond_split (ar.get rfl) (fun hc => ?_) (fun hc => ?_)
  ·have cz := a9.1 (of_decide_eq_true hc)
   clear hc
   refine wp_seq (wp_region_lit ?_)
   refine sqv ar rfl (r_assign rfl) fun _ cA => ?_
   refine sq_end ?_
   have bd := cA.keep [(8, .int .i64 4)] ⟨rfl, trivial⟩
   refine then_normal ?_
   refine wp_ret ?_
   refine block_ret ?_
   refine then_ret ?_
   exact res_all (vs := [.int .i64 4]) rfl bd ⟨res_of_tmp bd rfl, trivial⟩ cz
  ·have cB := a9.2 (of_decide_eq_false hc)
   clear hc
   refine wp_seq (wp_region_lit ?_)
   refine sqv ar rfl (r_move (ar.get rfl)) fun _ bf => ?_
   refine sq (opk_call bf rfl (r_call (args := #[.string (Bs f)]) Try.func50 (by decide) rfl (map_arr (ml_cons (bf.get rfl) ml_nil)) rfl) cB fun dY dZ az bg _ d0 d1 cC => ?_)
   obtain ⟨z, rfl, bh⟩ := cC
   refine sqv bg rfl (r_not (bg.get rfl)) fun _ bi => ?_
   refine sqv bi rfl (r_assign (bi.get rfl)) fun _ cD => ?_
   refine sq_end ?_
   have au := cD.keep [(2, .string (Bs f)), (3, .string (Bs c)), (9, .pointer d), (25, .bool (!z))] ⟨rfl, rfl, rfl, rfl, trivial⟩
   refine then_normal ?_
   refine wp_cond_split (au.get rfl) (fun hc => ?_) (fun hc => ?_)
   ·have cF := bh.1 (b_not_t hc)
    clear hc
    refine wp_seq (wp_region_lit ?_)
    refine sqv au rfl (r_assign rfl) fun _ cG => ?_
    refine sq_end ?_
    have bj := cG.keep [(8, .int .i64 8)] ⟨rfl, trivial⟩
    refine then_normal ?_
    refine wp_ret ?_
    refine block_ret ?_
    refine then_ret ?_
    exact res_all (vs := [.int .i64 8]) rfl bj ⟨res_of_tmp bj rfl, trivial⟩ cF
   ·have cH := bh.2 (b_not_f hc)
    clear hc
    refine wp_skip ?_
    refine block_normal ?_
    refine then_normal (wp_seq (wp_region_lit ?_))
    refine sqv au rfl (r_move (au.get rfl)) fun _ bk => ?_
    refine sqv bk rfl (r_move (bk.get rfl)) fun _ aN => ?_
    refine sq (opk_call aN rfl (r_call (args := #[.pointer d, .string (Bs f)]) Try.func51 (by decide) rfl (map_arr (ml_cons (aN.get rfl) (ml_cons (aN.get rfl) ml_nil))) rfl) cH fun d2 d3 k bl _ d4 d5 cI => ?_)
    obtain ⟨j, i, rfl, cJ⟩ := cI
    refine sqv bl rfl (r_move (bl.get rfl)) fun _ bm => ?_
    refine sqv bm rfl (r_extract (bm.get rfl) rfl) fun _ bn => ?_
    refine sqv bn rfl (r_extract (bn.get rfl) rfl) fun _ bo => ?_
    refine sqv bo rfl (r_assign (bo.get rfl)) fun _ bp => ?_
    refine sqv bp rfl (r_assign (bp.get rfl)) fun _ cK => ?_
    refine sq_end ?_
    have bq := cK.keep [(2, .string (Bs f)), (3, .string (Bs c)), (9, .pointer d), (10, .int .i64 j), (11, .bool i)] ⟨rfl, rfl, rfl, rfl, rfl, trivial⟩
    refine then_normal (wp_seq (wp_block (wp_seq (wp_region_lit ?_))))
    refine sqv bq rfl (r_move (bq.get rfl)) fun _ br => ?_
    refine sqv br rfl (r_slen (br.get rfl) Try.underlying9) fun _ bs => ?_
    refine sqv bs rfl (r_gtr (bs.get rfl) rfl) fun _ bt => ?_
    refine sqv bt rfl (r_move (bt.get rfl)) fun _ bu => ?_
    refine sq (opk_gval bu rfl rfl (g := true) (e := (decide (4096 < (c.length : Int)))) rfl (fun hg => r_move (bu.get rfl)) fun d6 bv _ => ?_)
    refine sq (opk_gval bv rfl rfl (g := true) (e := (decide (4096 < (c.length : Int)))) rfl (fun hg => r_not (cv_get (bv.get rfl) hg)) fun d7 bx _ => ?_)
    refine sq (opk_gval bx rfl rfl (g := true) (e := (decide (4096 < (c.length : Int)))) rfl (fun hg => r_move (cv_get (bx.get rfl) hg)) fun d8 bz _ => ?_)
    refine sq (opk_gval bz rfl rfl (g := (true && ((decide (4096 < (c.length : Int))) == false))) (e := (!i)) rfl (fun hg => r_move (bz.get rfl)) fun d9 bA _ => ?_)
    obtain ⟨aA, cL, cM⟩ := cJ
    refine sq (opk_gval bA rfl rfl (g := (true && ((decide (4096 < (c.length : Int))) == false))) (e := (!i)) rfl (fun hg => r_nilCheckP (((cv_get (bA.get rfl) hg)).trans (congrArg Value.pointer (cL ⟨(of_decide_eq_false (g_f (g_up hg))), (b_not_t (g_t hg))⟩)))) fun fa bB _ => ?_)
    refine sq (opk_gval bB rfl rfl (g := (true && ((decide (4096 < (c.length : Int))) == false))) (e := (!i)) rfl (fun hg => r_fieldAddr (cv_get (bB.get rfl) hg) Try.underlying76 rfl ti_29 (by decide)) fun fb bC _ => ?_)
    refine sq (opk_gval bC rfl rfl (g := (true && ((decide (4096 < (c.length : Int))) == false))) (e := (!i)) rfl (fun hg => r_fieldAddr (cv_get (bC.get rfl) hg) Try.underlying29 rfl ti_26 (by decide)) fun fc bD _ => ?_)
    obtain ⟨aa, cN, bF⟩ := cM
    refine sq (opk_gval bD rfl rfl (g := (true && ((decide (4096 < (c.length : Int))) == false))) (e := (!i)) rfl (fun hg => r_load1 Try.underlying26 rfl (cv_get (bD.get rfl) hg) (cN ⟨(of_decide_eq_false (g_f (g_up hg))), (b_not_t (g_t hg))⟩)) fun fd bG _ => ?_)
    refine sq (opk_gval bG rfl rfl (g := (true && ((decide (4096 < (c.length : Int))) == false))) (e := (!i)) rfl (fun hg => r_len (cv_get (bG.get rfl) hg) Try.underlying26) fun ff bH _ => ?_)
    refine sq (opk_gval bH rfl rfl (g := (true && ((decide (4096 < (c.length : Int))) == false))) (e := (!i)) rfl (fun hg => r_geq (cv_get (bH.get rfl) hg) rfl) fun fg aO _ => ?_)
    refine sq (opk_gval aO rfl rfl (g := true) (e := (decide (4096 < (c.length : Int)))) rfl (fun hg => r_pick_and (g := ((true && ((decide (4096 < (c.length : Int))) == false)) && ((!i) == true))) (cv_get (aO.get rfl) hg) (aO.get rfl) (fun he => g_mkt hg he)) fun fh aP _ => ?_)
    refine sqv aP rfl (r_pick_or (g := (true && ((decide (4096 < (c.length : Int))) == false))) (aP.get rfl) (aP.get rfl) (fun he => g_mkf rfl he)) fun _ bI => ?_
    refine sqv bI rfl (r_assign (bI.get rfl)) fun _ cO => ?_
    refine sq_end ?_
    have av := cO.keep [(2, .string (Bs f)), (3, .string (Bs c)), (9, .pointer d), (10, .int .i64 j), (11, .bool i), (35, .bool ((decide (4096 < (c.length : Int))) || ((!i) && (decide (12 ≤ (aa.n : Int))))))] ⟨rfl, rfl, rfl, rfl, rfl, rfl, trivial⟩
    refine then_normal ?_
    refine wp_cond_split (av.get rfl) (fun hc => ?_) (fun hc => ?_)
    ·have cP := bF.1 ((b_or_t hc).imp (fun h => (of_decide_eq_true h)) (fun h => ⟨(b_not_t (b_and_t h).1), (of_decide_eq_true (b_and_t h).2)⟩))
     clear hc
     refine wp_seq (wp_region_lit ?_)
     refine sqv av rfl (r_assign rfl) fun _ cQ => ?_
     refine sq_end ?_
     have bJ := cQ.keep [(8, .int .i64 2)] ⟨rfl, trivial⟩
     refine then_normal ?_
     refine wp_ret ?_
     refine block_ret ?_
     refine then_ret ?_
     exact res_all (vs := [.int .i64 2]) rfl bJ ⟨res_of_tmp bJ rfl, trivial⟩ cP
    ·have bK := bF.2 ⟨(of_decide_eq_false (b_or_f hc).1), ((b_and_f (b_or_f hc).2).imp (fun h => (b_not_f h)) (fun h => (of_decide_eq_false h)))⟩
     clear hc
     refine wp_seq (wp_region_lit ?_)
     refine sqv av rfl (r_move (av.get rfl)) fun _ bL => ?_
     refine sqv bL rfl (r_not (bL.get rfl)) fun _ bM => ?_
     refine sqv bM rfl (r_assign (bM.get rfl)) fun _ cR => ?_
     refine sq_end ?_
     have ag := cR.keep [(2, .string (Bs f)), (3, .string (Bs c)), (9, .pointer d), (10, .int .i64 j), (52, .bool (!i))] ⟨rfl, rfl, rfl, rfl, rfl, trivial⟩
     refine then_normal ?_
     refine wp_cond_split (ag.get rfl) (fun hc => ?_) (fun hc => ?_)
     ·have cS := bK.1 (b_not_t hc)
      clear hc
      refine wp_region_lit ?_
      refine sqv ag rfl (r_move (ag.get rfl)) fun _ bN => ?_
      refine sqv bN rfl (r_move (bN.get rfl)) fun _ bO => ?_
      obtain ⟨aB, cT, cU⟩ := cS
      refine sqv bO rfl (r_nilCheckP (((bO.get rfl)).trans (congrArg Value.pointer cT))) fun _ bP => ?_
      refine sqv bP rfl (r_fieldAddr (bP.get rfl) Try.underlying76 rfl ti_29 (by decide)) fun _ bQ => ?_
      refine sqv bQ rfl (r_fieldAddr (bQ.get rfl) Try.underlying29 rfl ti_26 (by decide)) fun _ bR => ?_
      obtain ⟨ah, cX, cY⟩ := cU
      refine sqv bR rfl (r_load1 Try.underlying26 rfl (bR.get rfl) cX) fun _ bS => ?_
      refine sqv bS rfl (r_move (bS.get rfl)) fun _ bT => ?_
      refine sqv bT rfl (r_move (bT.get rfl)) fun _ bU => ?_
      refine sqv bU rfl (r_build (vs := #[(0, .string (Bs f))]) (cells := #[.string (Bs f), .string (Bs ([] : Str))]) (map_arr2 (ml2_cons (bU.get rfl) (ml2_nil))) ti_65 Try.underlying65 pl_65 (by kernel_rfl)) fun _ bV => ?_
      refine sq (opk_new (fun B => .slice (some ⟨B, 0, none⟩) 1 1) bV rfl (r_buildSlice (vs := #[(0, .agg #[.string (Bs f), .string (Bs ([] : Str))])]) (cs := [.string (Bs f), .string (Bs ([] : Str))]) (map_arr2 (ml2_cons (bV.get rfl) (ml2_nil))) Try.underlying26 ti_65 rfl rfl (by kernel_rfl)) fun fi l q cZ c0 c1 ax _ => ?_)
      have c2 : New k q l := c0
      have c3 : Chg [] k l := cZ
      have c4 := cY l q c2  c3
      have c5 := c4 c1
      refine sq (opk_call ax rfl (r_call (args := #[Sl.v ah, .int .i64 j, Sl.v (Sl.mk (some ⟨q, 0, none⟩) 1 1)]) Try.func52 (by decide) rfl (map_arr (ml_cons (ax.get rfl) (ml_cons (ax.get rfl) (ml_cons (ax.get rfl) ml_nil)))) rfl) c5 fun fj fk aC bX _ fl fm c6 => ?_)
      obtain ⟨ab, rfl, c7⟩ := c6
      obtain ⟨aD, c8, c9⟩ := c7
      refine sqv bX rfl (r_nilCheckP (((bX.get rfl)).trans (congrArg Value.pointer c8))) fun _ bY => ?_
      refine sqv bY rfl (r_fieldAddr (bY.get rfl) Try.underlying76 rfl ti_29 (by decide)) fun _ bZ => ?_
      refine sqv bZ rfl (r_fieldAddr (bZ.get rfl) Try.underlying29 rfl ti_26 (by decide)) fun _ aQ => ?_
      obtain ⟨s, ai, aF, aj, da, b0, db, fn, dc⟩ := c9
      refine sq (opk_store aQ b0 (r_store (vs := [Sl.v ab]) (((aQ.get rfl)).trans (congrArg (fun a => Value.pointer (some a)) da)) (aQ.get rfl) rfl ti_26 b0 (Nat.ble_eq_true_of_le db) (ones_all [Sl.v ab] rfl)) fun fo r dd df dg => ?_)
      have dh := dc r dd df
      refine sq_end ?_
      have b1 := dg.keep [(3, .string (Bs c)), (9, .pointer d), (10, .int .i64 j)] ⟨rfl, rfl, rfl, trivial⟩
      refine block_normal ?_
      refine then_normal (wp_seq (wp_region_lit ?_))
      refine sqv b1 rfl (r_move (b1.get rfl)) fun _ b2 => ?_
      obtain ⟨aG, di, dj⟩ := dh
      refine sqv b2 rfl (r_nilCheckP (((b2.get rfl)).trans (congrArg Value.pointer di))) fun _ b3 => ?_
      refine sqv b3 rfl (r_fieldAddr (b3.get rfl) Try.underlying76 rfl ti_29 (by decide)) fun _ b4 => ?_
      refine sqv b4 rfl (r_fieldAddr (b4.get rfl) Try.underlying29 rfl ti_26 (by decide)) fun _ b5 => ?_
      obtain ⟨ak, dk, dl⟩ := dj
      refine sqv b5 rfl (r_load1 Try.underlying26 rfl (b5.get rfl) dk) fun _ b6 => ?_
      refine sqv b6 rfl (r_move (b6.get rfl)) fun _ b7 => ?_
      refine sqv b7 rfl (r_move (b7.get rfl)) fun _ aR => ?_
      obtain ⟨dm, aH, dn, dp⟩ := dl
      refine sqv aR rfl (r_indexAddr (aR.get rfl) (aR.get rfl) Try.underlying26 ti_65 dm dn) fun _ b8 => ?_
      refine sqv b8 rfl (r_fieldAddr (b8.get rfl) Try.underlying65 rfl ti_9 (by decide)) fun _ aS => ?_
      obtain ⟨t, al, aI, am, dq, b9, dr, fp, ds⟩ := dp
      refine sq (opk_store aS b9 (r_store (vs := [.string (Bs c)]) (((aS.get rfl)).trans (congrArg (fun a => Value.pointer (some a)) dq)) (aS.get rfl) rfl ti_9 b9 (Nat.ble_eq_true_of_le dr) (ones_all [.string (Bs c)] rfl)) fun fq ad dt du dv => ?_)
      have dx := ds ad dt du
      refine sq_end ?_
      have dy := dv.keep [] trivial
      refine then_normal (wp_seq (wp_region_lit ?_))
      refine sqv dy rfl (r_assign rfl) fun _ dz => ?_
      refine sq_end ?_
      have ca := dz.keep [(8, .int .i64 0)] ⟨rfl, trivial⟩
      refine then_normal ?_
      refine wp_ret ?_
      exact res_all (vs := [.int .i64 0]) rfl ca ⟨res_of_tmp ca rfl, trivial⟩ dx
     ·have dA := bK.2 (b_not_f hc)
      clear hc
      refine wp_skip ?_
      refine block_normal ?_
      refine then_normal (wp_seq (wp_region_lit ?_))
      refine sqv ag rfl (r_move (ag.get rfl)) fun _ cb => ?_
      obtain ⟨aJ, dB, dC⟩ := dA
      refine sqv cb rfl (r_nilCheckP (((cb.get rfl)).trans (congrArg Value.pointer dB))) fun _ cc => ?_
      refine sqv cc rfl (r_fieldAddr (cc.get rfl) Try.underlying76 rfl ti_29 (by decide)) fun _ cd => ?_
      refine sqv cd rfl (r_fieldAddr (cd.get rfl) Try.underlying29 rfl ti_26 (by decide)) fun _ cf => ?_
      obtain ⟨an, dD, dF⟩ := dC
      refine sqv cf rfl (r_load1 Try.underlying26 rfl (cf.get rfl) dD) fun _ cg => ?_
      refine sqv cg rfl (r_move (cg.get rfl)) fun _ ch => ?_
      refine sqv ch rfl (r_move (ch.get rfl)) fun _ aT => ?_
      obtain ⟨dG, aK, dH, dI⟩ := dF
      refine sqv aT rfl (r_indexAddr (aT.get rfl) (aT.get rfl) Try.underlying26 ti_65 dG dH) fun _ ci => ?_
      refine sqv ci rfl (r_fieldAddr (ci.get rfl) Try.underlying65 rfl ti_9 (by decide)) fun _ aU => ?_
      obtain ⟨u, ao, aL, ap, dJ, cj, dK, fr, dL⟩ := dI
      refine sq (opk_store aU cj (r_store (vs := [.string (Bs c)]) (((aU.get rfl)).trans (congrArg (fun a => Value.pointer (some a)) dJ)) (aU.get rfl) rfl ti_9 cj (Nat.ble_eq_true_of_le dK) (ones_all [.string (Bs c)] rfl)) fun fs af dM dN dO => ?_)
      have dP := dL af dM dN
      refine sq_end ?_
      have dQ := dO.keep [] trivial
      refine then_normal (wp_seq (wp_region_lit ?_))
      refine sqv dQ rfl (r_assign rfl) fun _ dR => ?_
      refine sq_end ?_
      have ck := dR.keep [(8, .int .i64 0)] ⟨rfl, trivial⟩
      refine then_normal ?_
      refine wp_ret ?_
      exact res_all (vs := [.int .i64 0]) rfl ck ⟨res_of_tmp ck rfl, trivial⟩ dP
def dom_Dom_Tree.vc (b : Addr) (R : Value → World → Prop) (w : World) : Prop :=
∀ (c : World) (a : Nat), New w a c → Chg [] w c →
CallK Try.prog 53 #[.pointer (some b), .int .i64 0] c [a] (fun v k => ∃ (d : Int) (f : Str) (g : Str) (h : Sl) (i : Sl), v = .agg #[.int .i64 d, .string (Bs f), .string (Bs g), Sl.v h, Sl.v i] ∧
∀ (j : World), Chg [a] k j →
R (.agg #[.int .i64 d, .string (Bs f), .string (Bs g), Sl.v h, Sl.v i]) j)
theorem dom_Dom_Tree.ok (b : Addr) {R : Value → World → Prop} {w : World} (m : dom_Dom_Tree.vc b R w) : Calls Try.prog 18 #[.pointer (some b)] w (Ret R) := by
 refine enter [.pointer (some b)] Try.func18 rfl Try.ntmps18 rfl ?_
 intro a0 r
 unfold dom_Dom_Tree.vc at m
 refine wp_seq (wp_region_lit ?_)
 refine sq (opk_new (fun B => .pointer (some ⟨B, 0, none⟩)) r rfl (r_alloc (cs := [.int .i64 0, .string (Bs ([] : Str)), .string (Bs ([] : Str)), Sl.v Sl.nil, Sl.v Sl.nil]) ti_29 rfl) fun a4 c a s t u x _ => ?_)
 have y : New w a c := t
 have z : Chg [] w c := s
 refine sq_end ?_
 have n := x.keep [(0, .pointer (some b)), (2, .pointer (some (⟨a, 0, none⟩ : Addr)))] ⟨rfl, rfl, trivial⟩
 refine then_normal (wp_seq (wp_region_lit ?_))
 refine sqv n rfl (r_move (n.get rfl)) fun _ o => ?_
 have aa := m c a y  z
 refine sq (opk_call o rfl (r_call (args := #[.pointer (some b), .int .i64 0]) Try.func53 (by decide) rfl (map_arr (ml_cons (o.get rfl) (ml_cons rfl ml_nil))) rfl) aa fun ao ap k l _ ab aq ad => ?_)
 obtain ⟨d, f, g, h, i, rfl, af⟩ := ad
 have p := u.kept ab (.head _)
 refine sq (opk_store l p (r_store (vs := [.int .i64 d, .string (Bs f), .string (Bs g), Sl.v h, Sl.v i]) (l.get rfl) (l.get rfl) rfl ti_29 p rfl (ones_all [.int .i64 d, .string (Bs f), .string (Bs g), Sl.v h, Sl.v i] rfl)) fun ar j ag ah ai => ?_)
 have aj : Box j a 29 [.int .i64 d, .string (Bs f), .string (Bs g), Sl.v h, Sl.v i] := ah
 have ak : Chg [a] k j := ag
 refine sq_end ?_
 have q := ai.keep [(2, .pointer (some (⟨a, 0, none⟩ : Addr)))] ⟨rfl, trivial⟩
 refine then_normal ?_
 refine wp_ret ?_
 have al := af j    ak
 exact res_all (vs := [.agg #[.int .i64 d, .string (Bs f), .string (Bs g), Sl.v h, Sl.v i]]) rfl q ⟨res_of_cell q rfl aj Try.underlying29 rfl ti_29, trivial⟩ al
def dom_Dom_Delete.vc (d : Addr) (g : Int) (R : Value → World → Prop) (w : World) : Prop :=
CallK Try.prog 45 #[.pointer (some d), .int .i64 g] w [] (fun v w9 => ∃ (ab : Option Addr), v = .pointer ab ∧
(((Option.isNone ab) = true) →
R (.int .i64 3) w9) ∧
(((Option.isNone ab) = false) →
∃ aO : Addr, (ab = some aO) ∧
∃ (ay : Int), (w9.cell? ((aO.add 2).add 0) = some (.int .i64 ay)) ∧
((ay = 1) →
R (.int .i64 4) w9) ∧
((¬ (ay = 1)) →
∃ aP : Addr, (ab = some aP) ∧
∃ (az : Sl), (w9.cell? (aP.add 7) = some (Sl.v az)) ∧
((0 < (az.n : Int)) →
R (.int .i64 7) w9) ∧
((¬ (0 < (az.n : Int))) →
CallK Try.prog 57 #[.pointer (some d), .int .i64 g] w9 [] (fun v am => v = .tuple #[] ∧
∃ (aQ : Option Nat), (am.cell? (d.add 1) = some (.map aQ)) ∧
∃ (j : Int), ((Instr.lookup 68 (.map aQ) (.int .i64 g) false).run Try.prog am = .ok (.int .i64 j) am) ∧
∀ (ad : World), Chg [] am ad →
∃ (an : Sl), (ad.cell? (d.add 0) = some (Sl.v an)) ∧
∃ (q : Sl), (ad.cell? (d.add 0) = some (Sl.v q)) ∧
(I64 ((q.n : Int) - 1)) ∧
∃ aA : Addr, (((0 : Int) ≤ (q.n : Int) - 1 ∧ (q.n : Int) - 1 < (an.n : Int)) ∧ an.a = some aA) ∧
∃ (k : Int) (s : Int) (t : Int) (u : Str) (x : Str) (y : Sl) (z : Sl) (aa : Sl), (Cells ad (aA.add (((q.n : Int) - 1).toNat * 8)) [.int .i64 k, .int .i64 s, .int .i64 t, .string (Bs u), .string (Bs x), Sl.v y, Sl.v z, Sl.v aa]) ∧
∀ (ak : World) (f : Nat), Ext ad ak → ad.heap.size ≤ f → Box ak f 76 [.int .i64 0, .int .i64 0, .int .i64 0, .string (Bs ([] : Str)), .string (Bs ([] : Str)), Sl.v Sl.nil, Sl.v Sl.nil, Sl.v Sl.nil] → 
∀ (ao : World), Chg [f] ak ao →
∃ (ap : Sl), (ao.cell? (d.add 0) = some (Sl.v ap)) ∧
∃ aB : Addr, (((0 : Int) ≤ j ∧ j < (ap.n : Int)) ∧ ap.a = some aB) ∧
∀ (aq : World), Chg [] ao aq →
∃ (ar aG : Nat) (aR : TypeId) (aH : List Value), (aB.add (j.toNat * 8)) = ⟨ar, aG, none⟩ ∧ Box aq ar aR aH ∧ aG + 8 ≤ aH.length ∧ (∀ b ∈ [f], b ≠ ar) ∧
(∀ au : World, Chg [ar] aq au → Box au ar aR (putAt aH aG [.int .i64 k, .int .i64 s, .int .i64 t, .string (Bs u), .string (Bs x), Sl.v y, Sl.v z, Sl.v aa]) →
∀ (al : World), Chg [] au al →
∃ (aC : Option Nat), (al.cell? (d.add 1) = some (.map aC)) ∧
∀ (aD : World), Chg [] al aD →
RunU Try.prog (Instr.mapUpdate 68 (.map aC) (.int .i64 k) (.int .i64 j)) aD [f] (fun aS =>
∃ (aT : Option Nat), (aS.cell? (d.add 1) = some (.map aT)) ∧
RunN Try.prog (Builtin.delete_ #[68, 3] 0 #[.map aT, .int .i64 g]) aS [] (fun aU =>
∀ (af : World), Chg [] aU af →
∃ (m : Sl), (af.cell? (d.add 0) = some (Sl.v m)) ∧
∃ (l : Sl), (af.cell? (d.add 0) = some (Sl.v l)) ∧
(I64 ((l.n : Int) - 1)) ∧
((0 : Int) ≤ (l.n : Int) - 1 ∧ (l.n : Int) - 1 ≤ (m.c : Int)) ∧
∀ (av : World), Chg [] af av →
∃ (ax aI : Nat) (aV : TypeId) (aJ : List Value), (d.add 0) = ⟨ax, aI, none⟩ ∧ Box av ax aV aJ ∧ aI + 1 ≤ aJ.length ∧ (∀ b ∈ [], b ≠ ax) ∧
(∀ aF : World, Chg [ax] av aF → Box aF ax aV (putAt aJ aI [Sl.v (Sl.cut m 8 0 ((l.n : Int) - 1).toNat m.c)]) →
R (.int .i64 0) aF)))))))))
theorem dom_Dom_Delete.ok (d : Addr) (g : Int) {R : Value → World → Prop} {w : World} (a7 : dom_Dom_Delete.vc d g R w) : Calls Try.prog 22 #[.pointer (some d), .int .i64 g] w (Ret R) := by
 refine enter [.pointer (some d), .int .i64 g] Try.func22 rfl Try.ntmps22 rfl ?_
 intro a0 b7
 unfold dom_Dom_Delete.vc at a7
 refine wp_seq (wp_region_lit ?_)
 refine sqv b7 rfl (r_assign rfl) fun _ b8 => ?_
 refine sq_end ?_
 have hA4 := b8.keep [(0, .pointer (some d)), (1, .int .i64 g)] ⟨rfl, rfl, trivial⟩
 refine then_normal (wp_seq (wp_region_lit ?_))
 refine sqv hA4 rfl (r_move (hA4.get rfl)) fun _ a9 => ?_
 refine sqv a9 rfl (r_move (a9.get rfl)) fun _ aX => ?_
 refine sq (opk_call aX rfl (r_call (args := #[.pointer (some d), .int .i64 g]) Try.func45 (by decide) rfl (map_arr (ml_cons (aX.get rfl) (ml_cons (aX.get rfl) ml_nil))) rfl) a7 fun a8 fY w9 ba _ fZ f0 b9 => ?_)
 obtain ⟨ab, rfl, bb⟩ := b9
 refine sqv ba rfl (r_assign (ba.get rfl)) fun _ ca => ?_
 refine sq_end ?_
 have bd := ca.keep [(0, .pointer (some d)), (1, .int .i64 g), (5, .pointer ab)] ⟨rfl, rfl, rfl, trivial⟩
 refine then_normal (wp_seq (wp_block (wp_seq (wp_region_lit ?_))))
 refine sqv bd rfl (r_move (bd.get rfl)) fun _ bf => ?_
 refine sqv bf rfl (r_pnil (o := ab) (bf.get rfl) rfl Try.underlying73) fun _ bg => ?_
 refine sqv bg rfl (r_assign (bg.get rfl)) fun _ cb => ?_
 refine sq_end ?_
 have aK := cb.keep [(0, .pointer (some d)), (1, .int .i64 g), (5, .pointer ab), (11, .bool (Option.isNone ab))] ⟨rfl, rfl, rfl, rfl, trivial⟩
 refine then_normal ?_
 refine wp_cond_split (aK.get rfl) (fun hc => ?_) (fun hc => ?_)
 ·have cc := bb.1 hc
  clear hc
  refine wp_seq (wp_region_lit ?_)
  refine sqv aK rfl (r_assign rfl) fun _ cd => ?_
  refine sq_end ?_
  have bh := cd.keep [(4, .int .i64 3)] ⟨rfl, trivial⟩
  refine then_normal ?_
  refine wp_ret ?_
  refine block_ret ?_
  refine then_ret ?_
  exact res_all (vs := [.int .i64 3]) rfl bh ⟨res_of_tmp bh rfl, trivial⟩ cc
 ·have cf := bb.2 hc
  clear hc
  refine wp_seq (wp_region_lit ?_)
  refine sqv aK rfl (r_move (aK.get rfl)) fun _ bi => ?_
  obtain ⟨aO, cg, ch⟩ := cf
  refine sqv bi rfl (r_nilCheckP (((bi.get rfl)).trans (congrArg Value.pointer cg))) fun _ bj => ?_
  refine sqv bj rfl (r_fieldAddr (bj.get rfl) Try.underlying76 rfl ti_29 (by decide)) fun _ bk => ?_
  refine sqv bk rfl (r_fieldAddr (bk.get rfl) Try.underlying29 rfl ti_3 (by decide)) fun _ bl => ?_
  obtain ⟨ay, ci, bm⟩ := ch
  refine sqv bl rfl (r_load1 Try.underlying3 rfl (bl.get rfl) ci) fun _ bn => ?_
  refine sqv bn rfl (r_eql (bn.get rfl) rfl) fun _ bo => ?_
  refine sqv bo rfl (r_assign (bo.get rfl)) fun _ cj => ?_
  refine sq_end ?_
  have aL := cj.keep [(0, .pointer (some d)), (1, .int .i64 g), (5, .pointer ab), (14, .bool (decide (ay = 1)))] ⟨rfl, rfl, rfl, rfl, trivial⟩
  refine then_normal ?_
  refine wp_cond_split (aL.get rfl) (fun hc => ?_) (fun hc => ?_)
  ·have ck := bm.1 (of_decide_eq_true hc)
   clear hc
   refine wp_seq (wp_region_lit ?_)
   refine sqv aL rfl (r_assign rfl) fun _ cl => ?_
   refine sq_end ?_
   have bp := cl.keep [(4, .int .i64 4)] ⟨rfl, trivial⟩
   refine then_normal ?_
   refine wp_ret ?_
   refine block_ret ?_
   refine then_ret ?_
   exact res_all (vs := [.int .i64 4]) rfl bp ⟨res_of_tmp bp rfl, trivial⟩ ck
  ·have cm := bm.2 (of_decide_eq_false hc)
   clear hc
   refine wp_seq (wp_region_lit ?_)
   refine sqv aL rfl (r_move (aL.get rfl)) fun _ bq => ?_
   obtain ⟨aP, cn, co⟩ := cm
   refine sqv bq rfl (r_nilCheckP (((bq.get rfl)).trans (congrArg Value.pointer cn))) fun _ br => ?_
   refine sqv br rfl (r_fieldAddr (br.get rfl) Try.underlying76 rfl ti_36 (by decide)) fun _ bs => ?_
   obtain ⟨az, cp, bt⟩ := co
   refine sqv bs rfl (r_load1 Try.underlying36 rfl (bs.get rfl) cp) fun _ bu => ?_
   refine sqv bu rfl (r_len (bu.get rfl) Try.underlying36) fun _ bv => ?_
   refine sqv bv rfl (r_gtr (bv.get rfl) rfl) fun _ bx => ?_
   refine sqv bx rfl (r_assign (bx.get rfl)) fun _ cq => ?_
   refine sq_end ?_
   have aM := cq.keep [(0, .pointer (some d)), (1, .int .i64 g), (21, .bool (decide (0 < (az.n : Int))))] ⟨rfl, rfl, rfl, trivial⟩
   refine then_normal ?_
   refine wp_cond_split (aM.get rfl) (fun hc => ?_) (fun hc => ?_)
   ·have cr := bt.1 (of_decide_eq_true hc)
    clear hc
    refine wp_seq (wp_region_lit ?_)
    refine sqv aM rfl (r_assign rfl) fun _ ct => ?_
    refine sq_end ?_
    have bz := ct.keep [(4, .int .i64 7)] ⟨rfl, trivial⟩
    refine then_normal ?_
    refine wp_ret ?_
    refine block_ret ?_
    refine then_ret ?_
    exact res_all (vs := [.int .i64 7]) rfl bz ⟨res_of_tmp bz rfl, trivial⟩ cr
   ·have cu := bt.2 (of_decide_eq_false hc)
    clear hc
    refine wp_skip ?_
    refine block_normal ?_
    refine then_normal (wp_seq (wp_region_lit ?_))
    refine sqv aM rfl (r_move (aM.get rfl)) fun _ bA => ?_
    refine sqv bA rfl (r_move (bA.get rfl)) fun _ aY => ?_
    refine sq (opk_call aY rfl (r_call (args := #[.pointer (some d), .int .i64 g]) Try.func57 (by decide) rfl (map_arr (ml_cons (aY.get rfl) (ml_cons (aY.get rfl) ml_nil))) rfl) cu fun f1 f2 am cv _ f3 f4 cx => ?_)
    obtain ⟨rfl, cy⟩ := cx
    refine sq_end ?_
    have bB := cv.keep [(0, .pointer (some d)), (1, .int .i64 g)] ⟨rfl, rfl, trivial⟩
    refine then_normal (wp_seq (wp_region_lit ?_))
    refine sqv bB rfl (r_move (bB.get rfl)) fun _ bC => ?_
    refine sqv bC rfl (r_nilCheck (bC.get rfl)) fun _ bD => ?_
    refine sqv bD rfl (r_fieldAddr (bD.get rfl) Try.underlying71 rfl ti_68 (by decide)) fun _ bF => ?_
    obtain ⟨aQ, cz, cA⟩ := cy
    refine sqv bF rfl (r_load1 Try.underlying68 rfl (bF.get rfl) cz) fun _ bG => ?_
    refine sqv bG rfl (r_move (bG.get rfl)) fun _ aZ => ?_
    obtain ⟨j, cB, cC⟩ := cA
    refine sqv aZ rfl (r_lookup (aZ.get rfl) (aZ.get rfl) cB) fun _ bH => ?_
    refine sqv bH rfl (r_assign (bH.get rfl)) fun _ cD => ?_
    refine sq_end ?_
    have r := cD.keep [(0, .pointer (some d)), (1, .int .i64 g), (6, .int .i64 j)] ⟨rfl, rfl, rfl, trivial⟩
    refine then_normal (wp_seq ?_)
    refine draw' (by kernel_rfl) fun ad cF => ?_
    have cG : Chg [] am ad := cF
    have cH := cC ad    cG
    obtain ⟨an, cI, cJ⟩ := cH
    obtain ⟨q, cK, cL⟩ := cJ
    obtain ⟨cM, cN⟩ := cL
    obtain ⟨aA, bI, cO⟩ := cN
    obtain ⟨k, s, t, u, x, y, z, aa, cP, cQ⟩ := cO
    refine par (D := [[], [0], [0, 1], [0, 1, 2], [], [4], [4, 5], [4, 5, 6], [4, 5, 6, 7], [4, 5, 6, 7, 8], [0, 1, 2, 3, 4, 5, 6, 7, 8, 9], [0, 1, 2, 3, 4, 5, 6, 7, 8, 9, 10], [], [0, 1, 2, 3, 4, 5, 6, 7, 8, 9, 10, 11, 12]]) (S := [0, 1, 2, 3, 4, 5, 6, 7, 8, 9, 10, 11, 12]) (F := []) (V := VL [(0, fun v _ => v = .pointer (some d)), (1, fun v _ => v = .pointer (some d)), (2, fun v _ => v = .pointer (some (d.add 0))), (3, fun v _ => v = Sl.v an), (4, fun v _ => v = .pointer (some d)), (5, fun v _ => v = .pointer (some d)), (6, fun v _ => v = .pointer (some (d.add 0))), (7, fun v _ => v = Sl.v q), (8, fun v _ => v = .int .i64 (q.n : Int)), (9, fun v _ => v = .int .i64 ((q.n : Int) - 1)), (10, fun v _ => v = .pointer (some (aA.add (((q.n : Int) - 1).toNat * 8)))), (11, fun v _ => v = .agg #[.int .i64 k, .int .i64 s, .int .i64 t, .string (Bs u), .string (Bs x), Sl.v y, Sl.v z, Sl.v aa]), (12, fun v w' => ∃ f : Nat, ad.heap.size ≤ f ∧ Box w' f 76 [.int .i64 0, .int .i64 0, .int .i64 0, .string (Bs ([] : Str)), .string (Bs ([] : Str)), Sl.v Sl.nil, Sl.v Sl.nil, Sl.v Sl.nil] ∧ v = .pointer (some (⟨f, 0, none⟩ : Addr)))]) r (by kernel_rfl) ⟨fun _ _ _ _ h => h, fun _ _ _ _ h => h, fun _ _ _ _ h => h, fun _ _ _ _ h => h, fun _ _ _ _ h => h, fun _ _ _ _ h => h, fun _ _ _ _ h => h, fun _ _ _ _ h => h, fun _ _ _ _ h => h, fun _ _ _ _ h => h, fun _ _ _ _ h => h, fun _ _ _ _ h => h, fun _ _ _ hE ⟨f, h0_, h1_, e⟩ => ⟨f, h0_, (h1_.ext hE), e⟩, trivial⟩ ⟨?_, ?_, ?_, ?_, ?_, ?_, ?_, ?_, ?_, ?_, ?_, ?_, ?_, trivial⟩ ?_
    ·intro a w hT
     have hAp := hT.ag r [(0, .pointer (some d))] ⟨rfl, trivial⟩ (by kernel_rfl)
     exact ovr hAp rfl (r_move (hAp.get rfl)) fun _ => Eq.refl _
    ·intro a w hT
     have hAp := hT.ag r [] trivial (by kernel_rfl)
     have cR : a.tmps.getD 37 undef = .pointer (some d) := hT.vals 0 rfl 37 rfl
     have hAp := hAp.add cR
     exact ovr hAp rfl (r_nilCheck (hAp.get rfl)) fun _ => Eq.refl _
    ·intro a w hT
     have hAp := hT.ag r [] trivial (by kernel_rfl)
     have cS : a.tmps.getD 38 undef = .pointer (some d) := hT.vals 1 rfl 38 rfl
     have hAp := hAp.add cS
     exact ovr hAp rfl (r_fieldAddr (hAp.get rfl) Try.underlying71 rfl ti_69 (by decide)) fun _ => Eq.refl _
    ·intro a w hT
     have hAp := hT.ag r [] trivial (by kernel_rfl)
     have cT : a.tmps.getD 39 undef = .pointer (some (d.add 0)) := hT.vals 2 rfl 39 rfl
     have hAp := hAp.add cT
     exact ovr hAp rfl (r_load1 Try.underlying69 rfl (hAp.get rfl) (Ext.cell hT.chg cI)) fun _ => Eq.refl _
    ·intro a w hT
     have hAp := hT.ag r [(0, .pointer (some d))] ⟨rfl, trivial⟩ (by kernel_rfl)
     exact ovr hAp rfl (r_move (hAp.get rfl)) fun _ => Eq.refl _
    ·intro a w hT
     have hAp := hT.ag r [] trivial (by kernel_rfl)
     have cU : a.tmps.getD 41 undef = .pointer (some d) := hT.vals 4 rfl 41 rfl
     have hAp := hAp.add cU
     exact ovr hAp rfl (r_nilCheck (hAp.get rfl)) fun _ => Eq.refl _
    ·intro a w hT
     have hAp := hT.ag r [] trivial (by kernel_rfl)
     have cX : a.tmps.getD 42 undef = .pointer (some d) := hT.vals 5 rfl 42 rfl
     have hAp := hAp.add cX
     exact ovr hAp rfl (r_fieldAddr (hAp.get rfl) Try.underlying71 rfl ti_69 (by decide)) fun _ => Eq.refl _
    ·intro a w hT
     have hAp := hT.ag r [] trivial (by kernel_rfl)
     have cY : a.tmps.getD 43 undef = .pointer (some (d.add 0)) := hT.vals 6 rfl 43 rfl
     have hAp := hAp.add cY
     exact ovr hAp rfl (r_load1 Try.underlying69 rfl (hAp.get rfl) (Ext.cell hT.chg cK)) fun _ => Eq.refl _
    ·intro a w hT
     have hAp := hT.ag r [] trivial (by kernel_rfl)
     have cZ : a.tmps.getD 44 undef = Sl.v q := hT.vals 7 rfl 44 rfl
     have hAp := hAp.add cZ
     exact ovr hAp rfl (r_len (hAp.get rfl) Try.underlying69) fun _ => Eq.refl _
    ·intro a w hT
     have hAp := hT.ag r [] trivial (by kernel_rfl)
     have c0 : a.tmps.getD 45 undef = .int .i64 (q.n : Int) := hT.vals 8 rfl 45 rfl
     have hAp := hAp.add c0
     exact ovr hAp rfl (r_subI (hAp.get rfl) rfl cM) fun _ => Eq.refl _
    ·intro a w hT
     have hAp := hT.ag r [] trivial (by kernel_rfl)
     have c1 : a.tmps.getD 40 undef = Sl.v an := hT.vals 3 rfl 40 rfl
     have hAp := hAp.add c1
     have c2 : a.tmps.getD 46 undef = .int .i64 ((q.n : Int) - 1) := hT.vals 9 rfl 46 rfl
     have hAp := hAp.add c2
     exact ovr hAp rfl (r_indexAddr (hAp.get rfl) (hAp.get rfl) Try.underlying69 ti_76 bI.1 bI.2) fun _ => Eq.refl _
    ·intro a w hT
     have hAp := hT.ag r [] trivial (by kernel_rfl)
     have c3 : a.tmps.getD 47 undef = .pointer (some (aA.add (((q.n : Int) - 1).toNat * 8))) := hT.vals 10 rfl 47 rfl
     have hAp := hAp.add c3
     exact ovr hAp rfl (r_loadN Try.underlying76 rfl ti_76 (hAp.get rfl) (cP.ext hT.chg)) fun _ => Eq.refl _
    ·intro a w hT
     have hAp := hT.ag r [] trivial (by kernel_rfl)
     exact opk_new (fun B => .pointer (some ⟨B, 0, none⟩)) hAp rfl (r_alloc (cs := [.int .i64 0, .int .i64 0, .int .i64 0, .string (Bs ([] : Str)), .string (Bs ([] : Str)), Sl.v Sl.nil, Sl.v Sl.nil, Sl.v Sl.nil]) ti_76 rfl) fun _ f5 f c4 c5 c6 _ e => ⟨_, e, c4, fun _ => ⟨f, Nat.le_trans hT.chg.size c5.ge, c6, rfl⟩⟩
    ·intro c7 ak bJ c8 bK
     have c9 := c8 [(0, .pointer (some d)), (1, .int .i64 g), (6, .int .i64 j)] ⟨rfl, rfl, rfl, trivial⟩ (by kernel_rfl)
     have da : c7.tmps.getD 48 undef = .agg #[.int .i64 k, .int .i64 s, .int .i64 t, .string (Bs u), .string (Bs x), Sl.v y, Sl.v z, Sl.v aa] := bK 11 rfl 48 rfl
     have db := c9.add da
     obtain ⟨f, dc, hf130, dd⟩ := bK 12 rfl 7 rfl
     have a1 := db.add dd
     have f6 : Chg [] ad ak := bJ
     have df := cQ ak f bJ dc hf130
     refine one (D := [[], [0], [0, 1], [0, 1, 2], [], [4], [4, 5], [4, 5, 6], [4, 5, 6, 7], [4, 5, 6, 7, 8], [0, 1, 2, 3, 4, 5, 6, 7, 8, 9], [0, 1, 2, 3, 4, 5, 6, 7, 8, 9, 10], [], [0, 1, 2, 3, 4, 5, 6, 7, 8, 9, 10, 11, 12]]) (i := 13) rfl (by kernel_rfl) (opk_store a1 hf130 (r_store (vs := [.int .i64 k, .int .i64 s, .int .i64 t, .string (Bs u), .string (Bs x), Sl.v y, Sl.v z, Sl.v aa]) (a1.get rfl) (a1.get rfl) rfl ti_76 hf130 rfl (ones_all [.int .i64 k, .int .i64 s, .int .i64 t, .string (Bs u), .string (Bs x), Sl.v y, Sl.v z, Sl.v aa] rfl)) fun f7 bL dg dh di => ?_)
     have dj : Box bL f 76 [.int .i64 k, .int .i64 s, .int .i64 t, .string (Bs u), .string (Bs x), Sl.v y, Sl.v z, Sl.v aa] := dh
     have dk : Chg [f] ak bL := dg
     refine PR_end (by kernel_rfl) ?_
     have ah := di.keep [(0, .pointer (some d)), (1, .int .i64 g), (6, .int .i64 j), (7, .pointer (some (⟨f, 0, none⟩ : Addr)))] ⟨rfl, rfl, rfl, rfl, trivial⟩
     refine then_normal (wp_seq ?_)
     refine draw' (by kernel_rfl) fun ao bM => ?_
     have bN := dj.ext bM
     have dl := dk.more bM
     have dm := df ao    dl
     obtain ⟨ap, dn, dp⟩ := dm
     obtain ⟨aB, bO, dq⟩ := dp
     refine par (D := [[], [0], [0, 1], [0, 1, 2], [], [], [0, 1, 2, 3, 4, 5], [0, 1, 2, 3, 4, 5, 6]]) (S := [0, 1, 2, 3, 4, 5, 6]) (F := []) (V := VL [(0, fun v _ => v = .pointer (some d)), (1, fun v _ => v = .pointer (some d)), (2, fun v _ => v = .pointer (some (d.add 0))), (3, fun v _ => v = Sl.v ap), (4, fun v _ => v = .int .i64 j), (5, fun v _ => v = .agg #[.int .i64 k, .int .i64 s, .int .i64 t, .string (Bs u), .string (Bs x), Sl.v y, Sl.v z, Sl.v aa]), (6, fun v _ => v = .pointer (some (aB.add (j.toNat * 8))))]) ah (by kernel_rfl) ⟨fun _ _ _ _ h => h, fun _ _ _ _ h => h, fun _ _ _ _ h => h, fun _ _ _ _ h => h, fun _ _ _ _ h => h, fun _ _ _ _ h => h, fun _ _ _ _ h => h, trivial⟩ ⟨?_, ?_, ?_, ?_, ?_, ?_, ?_, trivial⟩ ?_
     ·intro a w hT
      have hAp := hT.ag ah [(0, .pointer (some d))] ⟨rfl, trivial⟩ (by kernel_rfl)
      exact ovr hAp rfl (r_move (hAp.get rfl)) fun _ => Eq.refl _
     ·intro a w hT
      have hAp := hT.ag ah [] trivial (by kernel_rfl)
      have dr : a.tmps.getD 49 undef = .pointer (some d) := hT.vals 0 rfl 49 rfl
      have hAp := hAp.add dr
      exact ovr hAp rfl (r_nilCheck (hAp.get rfl)) fun _ => Eq.refl _
     ·intro a w hT
      have hAp := hT.ag ah [] trivial (by kernel_rfl)
      have ds : a.tmps.getD 50 undef = .pointer (some d) := hT.vals 1 rfl 50 rfl
      have hAp := hAp.add ds
      exact ovr hAp rfl (r_fieldAddr (hAp.get rfl) Try.underlying71 rfl ti_69 (by decide)) fun _ => Eq.refl _
     ·intro a w hT
      have hAp := hT.ag ah [] trivial (by kernel_rfl)
      have dt : a.tmps.getD 51 undef = .pointer (some (d.add 0)) := hT.vals 2 rfl 51 rfl
      have hAp := hAp.add dt
      exact ovr hAp rfl (r_load1 Try.underlying69 rfl (hAp.get rfl) (Ext.cell hT.chg dn)) fun _ => Eq.refl _
     ·intro a w hT
      have hAp := hT.ag ah [(6, .int .i64 j)] ⟨rfl, trivial⟩ (by kernel_rfl)
      exact ovr hAp rfl (r_move (hAp.get rfl)) fun _ => Eq.refl _
     ·intro a w hT
      have hAp := hT.ag ah [(7, .pointer (some (⟨f, 0, none⟩ : Addr)))] ⟨rfl, trivial⟩ (by kernel_rfl)
      exact ovr hAp rfl (r_loadN (cs := [.int .i64 k, .int .i64 s, .int .i64 t, .string (Bs u), .string (Bs x), Sl.v y, Sl.v z, Sl.v aa]) Try.underlying76 rfl ti_76 (hAp.get rfl) ((bN.ext hT.chg).part 0 _ rfl)) fun _ => Eq.refl _
     ·intro a w hT
      have hAp := hT.ag ah [] trivial (by kernel_rfl)
      have du : a.tmps.getD 52 undef = Sl.v ap := hT.vals 3 rfl 52 rfl
      have hAp := hAp.add du
      have dv : a.tmps.getD 53 undef = .int .i64 j := hT.vals 4 rfl 53 rfl
      have hAp := hAp.add dv
      exact ovr hAp rfl (r_indexAddr (hAp.get rfl) (hAp.get rfl) Try.underlying69 ti_76 bO.1 bO.2) fun _ => Eq.refl _
     ·intro bP aq bQ dx bR
      have dy := dx [(0, .pointer (some d)), (1, .int .i64 g), (6, .int .i64 j), (7, .pointer (some (⟨f, 0, none⟩ : Addr)))] ⟨rfl, rfl, rfl, rfl, trivial⟩ (by kernel_rfl)
      have dz : bP.tmps.getD 54 undef = .agg #[.int .i64 k, .int .i64 s, .int .i64 t, .string (Bs u), .string (Bs x), Sl.v y, Sl.v z, Sl.v aa] := bR 5 rfl 54 rfl
      have dA := dy.add dz
      have dB : bP.tmps.getD 55 undef = .pointer (some (aB.add (j.toNat * 8))) := bR 6 rfl 55 rfl
      have a2 := dA.add dB
      have dC := bN.ext bQ
      have dD : Chg [] ao aq := bQ
      have dF := dq aq    dD
      obtain ⟨ar, aG, aR, aH, dG, bS, dH, dI, dJ⟩ := dF
      refine one (D := [[], [0], [0, 1], [0, 1, 2], [], [], [0, 1, 2, 3, 4, 5], [0, 1, 2, 3, 4, 5, 6]]) (i := 7) rfl (by kernel_rfl) (opk_store a2 bS (r_store (vs := [.int .i64 k, .int .i64 s, .int .i64 t, .string (Bs u), .string (Bs x), Sl.v y, Sl.v z, Sl.v aa]) (((a2.get rfl)).trans (congrArg (fun a => Value.pointer (some a)) dG)) (a2.get rfl) rfl ti_76 bS (Nat.ble_eq_true_of_le dH) (ones_all [.int .i64 k, .int .i64 s, .int .i64 t, .string (Bs u), .string (Bs x), Sl.v y, Sl.v z, Sl.v aa] rfl)) fun f8 au bT dK dL => ?_)
      have dM := dC.keep bT (by have := dI f (by simp); simpa using this)
      have dN := dJ au bT dK
      refine PR_end (by kernel_rfl) ?_
      have ai := dL.keep [(0, .pointer (some d)), (1, .int .i64 g), (6, .int .i64 j), (7, .pointer (some (⟨f, 0, none⟩ : Addr)))] ⟨rfl, rfl, rfl, rfl, trivial⟩
      refine then_normal (wp_seq ?_)
      refine draw' (by kernel_rfl) fun al bU => ?_
      have bV := dM.ext bU
      have dO : Chg [] au al := bU
      have dP := dN al    dO
      obtain ⟨aC, dQ, dR⟩ := dP
      refine par (D := [[], [0], [0, 1], [0, 1, 2], [], [4], [], [0, 1, 2, 3, 4, 5, 6]]) (S := [0, 1, 2, 3, 4, 5, 6]) (F := []) (V := VL [(0, fun v _ => v = .pointer (some d)), (1, fun v _ => v = .pointer (some d)), (2, fun v _ => v = .pointer (some (d.add 1))), (3, fun v _ => v = .map aC), (4, fun v _ => v = .pointer (some (⟨f, 0, none⟩ : Addr))), (5, fun v _ => v = .int .i64 k), (6, fun v _ => v = .int .i64 j)]) ai (by kernel_rfl) ⟨fun _ _ _ _ h => h, fun _ _ _ _ h => h, fun _ _ _ _ h => h, fun _ _ _ _ h => h, fun _ _ _ _ h => h, fun _ _ _ _ h => h, fun _ _ _ _ h => h, trivial⟩ ⟨?_, ?_, ?_, ?_, ?_, ?_, ?_, trivial⟩ ?_
      ·intro a w hT
       have hAp := hT.ag ai [(0, .pointer (some d))] ⟨rfl, trivial⟩ (by kernel_rfl)
       exact ovr hAp rfl (r_move (hAp.get rfl)) fun _ => Eq.refl _
      ·intro a w hT
       have hAp := hT.ag ai [] trivial (by kernel_rfl)
       have dS : a.tmps.getD 56 undef = .pointer (some d) := hT.vals 0 rfl 56 rfl
       have hAp := hAp.add dS
       exact ovr hAp rfl (r_nilCheck (hAp.get rfl)) fun _ => Eq.refl _
      ·intro a w hT
       have hAp := hT.ag ai [] trivial (by kernel_rfl)
       have dT : a.tmps.getD 57 undef = .pointer (some d) := hT.vals 1 rfl 57 rfl
       have hAp := hAp.add dT
       exact ovr hAp rfl (r_fieldAddr (hAp.get rfl) Try.underlying71 rfl ti_68 (by decide)) fun _ => Eq.refl _
      ·intro a w hT
       have hAp := hT.ag ai [] trivial (by kernel_rfl)
       have dU : a.tmps.getD 58 undef = .pointer (some (d.add 1)) := hT.vals 2 rfl 58 rfl
       have hAp := hAp.add dU
       exact ovr hAp rfl (r_load1 Try.underlying68 rfl (hAp.get rfl) (Ext.cell hT.chg dQ)) fun _ => Eq.refl _
      ·intro a w hT
       have hAp := hT.ag ai [(7, .pointer (some (⟨f, 0, none⟩ : Addr)))] ⟨rfl, trivial⟩ (by kernel_rfl)
       exact ovr hAp rfl (r_fieldAddr (hAp.get rfl) Try.underlying76 rfl ti_3 (by decide)) fun _ => Eq.refl _
      ·intro a w hT
       have hAp := hT.ag ai [] trivial (by kernel_rfl)
       have dV : a.tmps.getD 60 undef = .pointer (some (⟨f, 0, none⟩ : Addr)) := hT.vals 4 rfl 60 rfl
       have hAp := hAp.add dV
       exact ovr hAp rfl (r_load1 Try.underlying3 rfl (hAp.get rfl) ((bV.ext hT.chg).cell 0 _ rfl)) fun _ => Eq.refl _
      ·intro a w hT
       have hAp := hT.ag ai [(6, .int .i64 j)] ⟨rfl, trivial⟩ (by kernel_rfl)
       exact ovr hAp rfl (r_move (hAp.get rfl)) fun _ => Eq.refl _
      ·intro a3 aD bX dX a4
       have dY := dX [(0, .pointer (some d)), (1, .int .i64 g)] ⟨rfl, rfl, trivial⟩ (by kernel_rfl)
       have dZ : a3.tmps.getD 59 undef = .map aC := a4 3 rfl 59 rfl
       have d0 := dY.add dZ
       have d1 : a3.tmps.getD 61 undef = .int .i64 k := a4 5 rfl 61 rfl
       have d2 := d0.add d1
       have d3 : a3.tmps.getD 62 undef = .int .i64 j := a4 6 rfl 62 rfl
       have aN := d2.add d3
       have d4 := bV.ext bX
       have d5 : Chg [] al aD := bX
       have d6 := dR aD    d5
       refine one (D := [[], [0], [0, 1], [0, 1, 2], [], [4], [], [0, 1, 2, 3, 4, 5, 6]]) (i := 7) rfl (by kernel_rfl) (opk_runU aN (fun _ hr => r_mapUpdate (aN.get rfl) (aN.get rfl) (aN.get rfl) hr) d6 fun f9 aS d7 d8 ga d9 => ?_)
       have gb := d4.kept d8 (.head _)
       refine PR_end (by kernel_rfl) ?_
       have bY := d7.keep [(0, .pointer (some d)), (1, .int .i64 g)] ⟨rfl, rfl, trivial⟩
       refine then_normal (wp_seq (wp_region_lit ?_))
       refine sqv bY rfl (r_move (bY.get rfl)) fun _ bZ => ?_
       refine sqv bZ rfl (r_nilCheck (bZ.get rfl)) fun _ b0 => ?_
       refine sqv b0 rfl (r_fieldAddr (b0.get rfl) Try.underlying71 rfl ti_68 (by decide)) fun _ b1 => ?_
       obtain ⟨aT, fa, fb⟩ := d9
       refine sqv b1 rfl (r_load1 Try.underlying68 rfl (b1.get rfl) fa) fun _ b2 => ?_
       refine sqv b2 rfl (r_move (b2.get rfl)) fun _ a5 => ?_
       refine sq (opk_runN a5 (fun _ hr => r_delete (a5.get rfl) (a5.get rfl) hr) fb fun gc aU fc gd gf fd => ?_)
       refine sq_end ?_
       have p := fc.keep [(0, .pointer (some d))] ⟨rfl, trivial⟩
       refine then_normal (wp_seq ?_)
       refine draw' (by kernel_rfl) fun af ff => ?_
       have fg : Chg [] aU af := ff
       have fh := fd af    fg
       obtain ⟨m, fi, fj⟩ := fh
       obtain ⟨l, fk, fl⟩ := fj
       obtain ⟨fm, fn⟩ := fl
       obtain ⟨fo, fp⟩ := fn
       refine par (D := [[], [], [1], [1, 2], [1, 2, 3], [], [5], [5, 6], [5, 6, 7], [5, 6, 7, 8], [5, 6, 7, 8, 9], [1, 2, 3, 4, 5, 6, 7, 8, 9, 10], [0, 1, 2, 3, 4, 5, 6, 7, 8, 9, 10, 11], [0, 1, 2, 3, 4, 5, 6, 7, 8, 9, 10, 11, 12], [0, 1, 2, 3, 4, 5, 6, 7, 8, 9, 10, 11, 12, 13]]) (S := [0, 1, 2, 3, 4, 5, 6, 7, 8, 9, 10, 11, 12, 13]) (F := []) (V := VL [(0, fun v _ => v = .pointer (some d)), (1, fun v _ => v = .pointer (some d)), (2, fun v _ => v = .pointer (some d)), (3, fun v _ => v = .pointer (some (d.add 0))), (4, fun v _ => v = Sl.v m), (5, fun v _ => v = .pointer (some d)), (6, fun v _ => v = .pointer (some d)), (7, fun v _ => v = .pointer (some (d.add 0))), (8, fun v _ => v = Sl.v l), (9, fun v _ => v = .int .i64 (l.n : Int)), (10, fun v _ => v = .int .i64 ((l.n : Int) - 1)), (11, fun v _ => v = Sl.v (Sl.cut m 8 0 ((l.n : Int) - 1).toNat m.c)), (12, fun v _ => v = .pointer (some d)), (13, fun v _ => v = .pointer (some (d.add 0)))]) p (by kernel_rfl) ⟨fun _ _ _ _ h => h, fun _ _ _ _ h => h, fun _ _ _ _ h => h, fun _ _ _ _ h => h, fun _ _ _ _ h => h, fun _ _ _ _ h => h, fun _ _ _ _ h => h, fun _ _ _ _ h => h, fun _ _ _ _ h => h, fun _ _ _ _ h => h, fun _ _ _ _ h => h, fun _ _ _ _ h => h, fun _ _ _ _ h => h, fun _ _ _ _ h => h, trivial⟩ ⟨?_, ?_, ?_, ?_, ?_, ?_, ?_, ?_, ?_, ?_, ?_, ?_, ?_, ?_, trivial⟩ ?_
       ·intro a w hT
        have hAp := hT.ag p [(0, .pointer (some d))] ⟨rfl, trivial⟩ (by kernel_rfl)
        exact ovr hAp rfl (r_move (hAp.get rfl)) fun _ => Eq.refl _
       ·intro a w hT
        have hAp := hT.ag p [(0, .pointer (some d))] ⟨rfl, trivial⟩ (by kernel_rfl)
        exact ovr hAp rfl (r_move (hAp.get rfl)) fun _ => Eq.refl _
       ·intro a w hT
        have hAp := hT.ag p [] trivial (by kernel_rfl)
        have fq : a.tmps.getD 69 undef = .pointer (some d) := hT.vals 1 rfl 69 rfl
        have hAp := hAp.add fq
        exact ovr hAp rfl (r_nilCheck (hAp.get rfl)) fun _ => Eq.refl _
       ·intro a w hT
        have hAp := hT.ag p [] trivial (by kernel_rfl)
        have fr : a.tmps.getD 70 undef = .pointer (some d) := hT.vals 2 rfl 70 rfl
        have hAp := hAp.add fr
        exact ovr hAp rfl (r_fieldAddr (hAp.get rfl) Try.underlying71 rfl ti_69 (by decide)) fun _ => Eq.refl _
       ·intro a w hT
        have hAp := hT.ag p [] trivial (by kernel_rfl)
        have fs : a.tmps.getD 71 undef = .pointer (some (d.add 0)) := hT.vals 3 rfl 71 rfl
        have hAp := hAp.add fs
        exact ovr hAp rfl (r_load1 Try.underlying69 rfl (hAp.get rfl) (Ext.cell hT.chg fi)) fun _ => Eq.refl _
       ·intro a w hT
        have hAp := hT.ag p [(0, .pointer (some d))] ⟨rfl, trivial⟩ (by kernel_rfl)
        exact ovr hAp rfl (r_move (hAp.get rfl)) fun _ => Eq.refl _
       ·intro a w hT
        have hAp := hT.ag p [] trivial (by kernel_rfl)
        have ft : a.tmps.getD 73 undef = .pointer (some d) := hT.vals 5 rfl 73 rfl
        have hAp := hAp.add ft
        exact ovr hAp rfl (r_nilCheck (hAp.get rfl)) fun _ => Eq.refl _
       ·intro a w hT
        have hAp := hT.ag p [] trivial (by kernel_rfl)
        have fu : a.tmps.getD 74 undef = .pointer (some d) := hT.vals 6 rfl 74 rfl
        have hAp := hAp.add fu
        exact ovr hAp rfl (r_fieldAddr (hAp.get rfl) Try.underlying71 rfl ti_69 (by decide)) fun _ => Eq.refl _
       ·intro a w hT
        have hAp := hT.ag p [] trivial (by kernel_rfl)
        have fv : a.tmps.getD 75 undef = .pointer (some (d.add 0)) := hT.vals 7 rfl 75 rfl
        have hAp := hAp.add fv
        exact ovr hAp rfl (r_load1 Try.underlying69 rfl (hAp.get rfl) (Ext.cell hT.chg fk)) fun _ => Eq.refl _
       ·intro a w hT
        have hAp := hT.ag p [] trivial (by kernel_rfl)
        have fx : a.tmps.getD 76 undef = Sl.v l := hT.vals 8 rfl 76 rfl
        have hAp := hAp.add fx
        exact ovr hAp rfl (r_len (hAp.get rfl) Try.underlying69) fun _ => Eq.refl _
       ·intro a w hT
        have hAp := hT.ag p [] trivial (by kernel_rfl)
        have fy : a.tmps.getD 77 undef = .int .i64 (l.n : Int) := hT.vals 9 rfl 77 rfl
        have hAp := hAp.add fy
        exact ovr hAp rfl (r_subI (hAp.get rfl) rfl fm) fun _ => Eq.refl _
       ·intro a w hT
        have hAp := hT.ag p [] trivial (by kernel_rfl)
        have fz : a.tmps.getD 72 undef = Sl.v m := hT.vals 4 rfl 72 rfl
        have hAp := hAp.add fz
        have fA : a.tmps.getD 78 undef = .int .i64 ((l.n : Int) - 1) := hT.vals 10 rfl 78 rfl
        have hAp := hAp.add fA
        exact ovr hAp rfl (r_sliceH (hAp.get rfl) (hAp.get rfl) Try.underlying69 ti_76 fo) fun _ => Eq.refl _
       ·intro a w hT
        have hAp := hT.ag p [] trivial (by kernel_rfl)
        have fB : a.tmps.getD 68 undef = .pointer (some d) := hT.vals 0 rfl 68 rfl
        have hAp := hAp.add fB
        exact ovr hAp rfl (r_nilCheck (hAp.get rfl)) fun _ => Eq.refl _
       ·intro a w hT
        have hAp := hT.ag p [] trivial (by kernel_rfl)
        have fC : a.tmps.getD 80 undef = .pointer (some d) := hT.vals 12 rfl 80 rfl
        have hAp := hAp.add fC
        exact ovr hAp rfl (r_fieldAddr (hAp.get rfl) Try.underlying71 rfl ti_69 (by decide)) fun _ => Eq.refl _
       ·intro b3 av fD fF b4
        have fG := fF [] trivial (by kernel_rfl)
        have fH : b3.tmps.getD 79 undef = Sl.v (Sl.cut m 8 0 ((l.n : Int) - 1).toNat m.c) := b4 11 rfl 79 rfl
        have fI := fG.add fH
        have fJ : b3.tmps.getD 81 undef = .pointer (some (d.add 0)) := b4 13 rfl 81 rfl
        have a6 := fI.add fJ
        have fK : Chg [] af av := fD
        have fL := fp av    fK
        obtain ⟨ax, aI, aV, aJ, fM, b5, fN, gg, fO⟩ := fL
        refine one (D := [[], [], [1], [1, 2], [1, 2, 3], [], [5], [5, 6], [5, 6, 7], [5, 6, 7, 8], [5, 6, 7, 8, 9], [1, 2, 3, 4, 5, 6, 7, 8, 9, 10], [0, 1, 2, 3, 4, 5, 6, 7, 8, 9, 10, 11], [0, 1, 2, 3, 4, 5, 6, 7, 8, 9, 10, 11, 12], [0, 1, 2, 3, 4, 5, 6, 7, 8, 9, 10, 11, 12, 13]]) (i := 14) rfl (by kernel_rfl) (opk_store a6 b5 (r_store (vs := [Sl.v (Sl.cut m 8 0 ((l.n : Int) - 1).toNat m.c)]) (((a6.get rfl)).trans (congrArg (fun a => Value.pointer (some a)) fM)) (a6.get rfl) rfl ti_69 b5 (Nat.ble_eq_true_of_le fN) (ones_all [Sl.v (Sl.cut m 8 0 ((l.n : Int) - 1).toNat m.c)] rfl)) fun gh aF fP fQ fR => ?_)
        have fS := fO aF fP fQ
        refine PR_end (by kernel_rfl) ?_
        have fT := fR.keep [] trivial
        refine then_normal (wp_seq (wp_region_lit ?_))
        refine sqv fT rfl (r_assign rfl) fun _ fU => ?_
        refine sq_end ?_
        have b6 := fU.keep [(4, .int .i64 0)] ⟨rfl, trivial⟩
        refine then_normal ?_
        refine wp_ret ?_
        exact res_all (vs := [.int .i64 0]) rfl b6 ⟨res_of_tmp b6 rfl, trivial⟩ fS
def dom_Dom_Has.vc (a : Addr) (b : Int) (R : Value → World → Prop) (w : World) : Prop :=
CallK Try.prog 45 #[.pointer (some a), .int .i64 b] w [] (fun v f => ∃ (c : Option Addr), v = .pointer c ∧
R (.bool (!(Option.isNone c))) f)
theorem dom_Dom_Has.ok (a : Addr) (b : Int) {R : Value → World → Prop} {w : World} (g : dom_Dom_Has.vc a b R w) : Calls Try.prog 23 #[.pointer (some a), .int .i64 b] w (Ret R) := by
 refine enter [.pointer (some a), .int .i64 b] Try.func23 rfl Try.ntmps23 rfl ?_
 intro s m
 unfold dom_Dom_Has.vc at g
 refine wp_seq (wp_region_lit ?_)
 refine sqv m rfl (r_assign rfl) fun _ n => ?_
 refine sq_end ?_
 have h := n.keep [(0, .pointer (some a)), (1, .int .i64 b)] ⟨rfl, rfl, trivial⟩
 refine then_normal (wp_seq (wp_region_lit ?_))
 refine sqv h rfl (r_move (h.get rfl)) fun _ i => ?_
 refine sqv i rfl (r_move (i.get rfl)) fun _ d => ?_
 refine sq (opk_call d rfl (r_call (args := #[.pointer (some a), .int .i64 b]) Try.func45 (by decide) rfl (map_arr (ml_cons (d.get rfl) (ml_cons (d.get rfl) ml_nil))) rfl) g fun t u f j _ x y p => ?_)
 obtain ⟨c, rfl, q⟩ := p
 refine sqv j rfl (r_pnnil (o := c) (j.get rfl) rfl Try.underlying73) fun _ k => ?_
 refine sqv k rfl (r_assign (k.get rfl)) fun _ r => ?_
 refine sq_end ?_
 have l := r.keep [(4, .bool (!(Option.isNone c)))] ⟨rfl, trivial⟩
 refine then_normal ?_
 refine wp_ret ?_
 exact res_all (vs := [.bool (!(Option.isNone c))]) rfl l ⟨res_of_tmp l rfl, trivial⟩ q
def dom_Dom_Move.vc (i : Addr) (d : Int) (f : Int) (c : Int) (R : Value → World → Prop) (w : World) : Prop :=
CallK Try.prog 45 #[.pointer (some i), .int .i64 d] w [] (fun v a4 => ∃ (j : Option Addr), v = .pointer j ∧
CallK Try.prog 45 #[.pointer (some i), .int .i64 f] a4 [] (fun v r => ∃ (k : Option Addr), v = .pointer k ∧
((((Option.isNone j) = true) ∨ ((Option.isNone k) = true)) →
R (.int .i64 3) r) ∧
((((Option.isNone j) = false) ∧ ((Option.isNone k) = false)) →
∃ aC : Addr, (j = some aC) ∧
∃ (l : Int), (r.cell? ((aC.add 2).add 0) = some (.int .i64 l)) ∧
∃ aD : Addr, (((¬ (l = 1))) → j = some aD) ∧
∃ (al : Int), (((¬ (l = 1))) → r.cell? ((aD.add 2).add 0) = some (.int .i64 al)) ∧
∃ (ad : Bool), (((¬ (l = 1))) → Calls Try.prog 46 #[.pointer k, .int .i64 al] r (Ret fun v w' => Ext r w' ∧ v = .bool ad)) ∧
(∀ u : World, Ext r u →
(((l = 1) ∨ (ad = false)) →
R (.int .i64 4) u) ∧
(((¬ (l = 1)) ∧ (ad = true)) →
CallK Try.prog 59 #[.pointer (some i), .int .i64 d, .int .i64 f] u [] (fun v x => ∃ (af : Bool), v = .bool af ∧
((af = true) →
R (.int .i64 6) x) ∧
((af = false) →
∃ aF : Addr, (k = some aF) ∧
∃ (m : Sl), (x.cell? (aF.add 7) = some (Sl.v m)) ∧
∃ aG : Addr, (j = some aG) ∧
∃ (ag : Int), (x.cell? (aG.add 1) = some (.int .i64 ag)) ∧
∃ ah : Int → World → Prop,
(((ag = f) →
(I64 ((m.n : Int) - 1)) ∧
ah ((m.n : Int) - 1) x) ∧
((¬ (ag = f)) →
ah (m.n : Int) x)) ∧
(∀ (p : Int) (ai : World), ah p ai →
(((c < 0) ∨ (p < c)) →
R (.int .i64 5) ai) ∧
(((¬ (c < 0)) ∧ (¬ (p < c))) →
CallK Try.prog 47 #[.pointer (some i), .int .i64 f] ai [] (fun v a5 => ∃ (y : Int), v = .int .i64 y ∧
CallK Try.prog 60 #[.pointer (some i), .int .i64 d] a5 [] (fun v aH => ∃ (z : Int), v = .int .i64 z ∧
(I64 (y + z)) ∧
((60 < (y + z)) →
R (.int .i64 2) aH) ∧
((¬ (60 < (y + z))) →
CallK Try.prog 57 #[.pointer (some i), .int .i64 d] aH [] (fun v aI => v = .tuple #[] ∧
∃ aJ : Addr, (j = some aJ) ∧
∃ (aa am : Nat) (aK : TypeId) (an : List Value), (aJ.add 1) = ⟨aa, am, none⟩ ∧ Box aI aa aK an ∧ am + 1 ≤ an.length ∧ (∀ b ∈ [], b ≠ aa) ∧
(∀ q : World, Chg [aa] aI q → Box q aa aK (putAt an am [.int .i64 f]) →
∃ aL : Addr, (k = some aL) ∧
∃ (ao : Sl), (q.cell? (aL.add 7) = some (Sl.v ao)) ∧
∀ (s : World) (t : Nat), New q t s → Chg [] q s →
∀ (_ : Box s t 3 [.int .i64 d]),
CallK Try.prog 49 #[Sl.v ao, .int .i64 c, Sl.v (Sl.mk (some ⟨t, 0, none⟩) 1 1)] s [] (fun v aM => ∃ (aj : Sl), v = Sl.v aj ∧
∃ aN : Addr, (k = some aN) ∧
∃ (ab ap : Nat) (aO : TypeId) (aq : List Value), (aN.add 7) = ⟨ab, ap, none⟩ ∧ Box aM ab aO aq ∧ ap + 1 ≤ aq.length ∧ (∀ b ∈ [], b ≠ ab) ∧
(∀ ak : World, Chg [ab] aM ak → Box ak ab aO (putAt aq ap [Sl.v aj]) →
R (.int .i64 0) ak))))))))))))))))
theorem dom_Dom_Move.ok (i : Addr) (d : Int) (f : Int) (c : Int) {R : Value → World → Prop} {w : World} (a6 : dom_Dom_Move.vc i d f c R w) : Calls Try.prog 26 #[.pointer (some i), .int .i64 d, .int .i64 f, .int .i64 c] w (Ret R) := by
 refine enter [.pointer (some i), .int .i64 d, .int .i64 f, .int .i64 c] Try.func26 rfl Try.ntmps26 rfl ?_
 intro a0 cA
 unfold dom_Dom_Move.vc at a6
 refine wp_seq (wp_region_lit ?_)
 refine sqv cA rfl (r_assign rfl) fun _ cB => ?_
 refine sq_end ?_
 have a7 := cB.keep [(0, .pointer (some i)), (1, .int .i64 d), (2, .int .i64 f), (3, .int .i64 c)] ⟨rfl, rfl, rfl, rfl, trivial⟩
 refine then_normal (wp_seq (wp_region_lit ?_))
 refine sqv a7 rfl (r_move (a7.get rfl)) fun _ a8 => ?_
 refine sqv a8 rfl (r_move (a8.get rfl)) fun _ aP => ?_
 refine sq (opk_call aP rfl (r_call (args := #[.pointer (some i), .int .i64 d]) Try.func45 (by decide) rfl (map_arr (ml_cons (aP.get rfl) (ml_cons (aP.get rfl) ml_nil))) rfl) a6 fun fk fl a4 a9 _ fm fn cC => ?_)
 obtain ⟨j, rfl, cD⟩ := cC
 refine sqv a9 rfl (r_move (a9.get rfl)) fun _ ba => ?_
 refine sqv ba rfl (r_move (ba.get rfl)) fun _ aQ => ?_
 refine sq (opk_call aQ rfl (r_call (args := #[.pointer (some i), .int .i64 f]) Try.func45 (by decide) rfl (map_arr (ml_cons (aQ.get rfl) (ml_cons (aQ.get rfl) ml_nil))) rfl) cD fun fo fp r bb _ fq fr cF => ?_)
 obtain ⟨k, rfl, bd⟩ := cF
 refine sqv bb rfl (r_assign (bb.get rfl)) fun _ bf => ?_
 refine sqv bf rfl (r_assign (bf.get rfl)) fun _ cG => ?_
 refine sq_end ?_
 have bg := cG.keep [(0, .pointer (some i)), (1, .int .i64 d), (2, .int .i64 f), (3, .int .i64 c), (9, .pointer j), (10, .pointer k)] ⟨rfl, rfl, rfl, rfl, rfl, rfl, trivial⟩
 refine then_normal (wp_seq (wp_block (wp_seq (wp_region_lit ?_))))
 refine sqv bg rfl (r_move (bg.get rfl)) fun _ bh => ?_
 refine sqv bh rfl (r_pnil (o := j) (bh.get rfl) rfl Try.underlying73) fun _ bi => ?_
 refine sqv bi rfl (r_move (bi.get rfl)) fun _ bj => ?_
 refine sq (opk_gval bj rfl rfl (g := true) (e := (Option.isNone j)) rfl (fun hg => r_move (bj.get rfl)) fun fs bk _ => ?_)
 refine sq (opk_gval bk rfl rfl (g := true) (e := (Option.isNone j)) rfl (fun hg => r_pnil (o := k) (cv_get (bk.get rfl) hg) rfl Try.underlying73) fun ft aR _ => ?_)
 refine sqv aR rfl (r_pick_or (g := (true && ((Option.isNone j) == false))) (aR.get rfl) (aR.get rfl) (fun he => g_mkf rfl he)) fun _ bl => ?_
 refine sqv bl rfl (r_assign (bl.get rfl)) fun _ cH => ?_
 refine sq_end ?_
 have ar := cH.keep [(0, .pointer (some i)), (1, .int .i64 d), (2, .int .i64 f), (3, .int .i64 c), (9, .pointer j), (10, .pointer k), (18, .bool ((Option.isNone j) || (Option.isNone k)))] ⟨rfl, rfl, rfl, rfl, rfl, rfl, rfl, trivial⟩
 refine then_normal ?_
 refine wp_cond_split (ar.get rfl) (fun hc => ?_) (fun hc => ?_)
 ·have cI := bd.1 ((b_or_t hc).imp (fun h => h) (fun h => h))
  clear hc
  refine wp_seq (wp_region_lit ?_)
  refine sqv ar rfl (r_assign rfl) fun _ cJ => ?_
  refine sq_end ?_
  have bm := cJ.keep [(8, .int .i64 3)] ⟨rfl, trivial⟩
  refine then_normal ?_
  refine wp_ret ?_
  refine block_ret ?_
  refine then_ret ?_
  exact res_all (vs := [.int .i64 3]) rfl bm ⟨res_of_tmp bm rfl, trivial⟩ cI
 ·have cK := bd.2 ⟨(b_or_f hc).1, (b_or_f hc).2⟩
  clear hc
  refine wp_seq (wp_region_lit ?_)
  refine sqv ar rfl (r_move (ar.get rfl)) fun _ bn => ?_
  obtain ⟨aC, cL, cM⟩ := cK
  refine sqv bn rfl (r_nilCheckP (((bn.get rfl)).trans (congrArg Value.pointer cL))) fun _ bo => ?_
  refine sqv bo rfl (r_fieldAddr (bo.get rfl) Try.underlying76 rfl ti_29 (by decide)) fun _ bp => ?_
  refine sqv bp rfl (r_fieldAddr (bp.get rfl) Try.underlying29 rfl ti_3 (by decide)) fun _ bq => ?_
  obtain ⟨l, cN, cO⟩ := cM
  refine sqv bq rfl (r_load1 Try.underlying3 rfl (bq.get rfl) cN) fun _ br => ?_
  refine sqv br rfl (r_eql (br.get rfl) rfl) fun _ bs => ?_
  refine sqv bs rfl (r_move (bs.get rfl)) fun _ bt => ?_
  refine sq (opk_gval bt rfl rfl (g := true) (e := (decide (l = 1))) rfl (fun hg => r_move (bt.get rfl)) fun fu bu _ => ?_)
  refine sq (opk_gval bu rfl rfl (g := true) (e := (decide (l = 1))) rfl (fun hg => r_move (bu.get rfl)) fun fv bv _ => ?_)
  obtain ⟨aD, cP, cQ⟩ := cO
  refine sq (opk_gval bv rfl rfl (g := true) (e := (decide (l = 1))) rfl (fun hg => r_nilCheckP (((cv_get (bv.get rfl) hg)).trans (congrArg Value.pointer (cP (of_decide_eq_false (g_f hg)))))) fun fx bx _ => ?_)
  refine sq (opk_gval bx rfl rfl (g := true) (e := (decide (l = 1))) rfl (fun hg => r_fieldAddr (cv_get (bx.get rfl) hg) Try.underlying76 rfl ti_29 (by decide)) fun fy bz _ => ?_)
  refine sq (opk_gval bz rfl rfl (g := true) (e := (decide (l = 1))) rfl (fun hg => r_fieldAddr (cv_get (bz.get rfl) hg) Try.underlying29 rfl ti_3 (by decide)) fun fz bA _ => ?_)
  obtain ⟨al, cR, cS⟩ := cQ
  refine sq (opk_gval bA rfl rfl (g := true) (e := (decide (l = 1))) rfl (fun hg => r_load1 Try.underlying3 rfl (cv_get (bA.get rfl) hg) (cR (of_decide_eq_false (g_f hg)))) fun fA aS _ => ?_)
  obtain ⟨ad, cT, cU⟩ := cS
  refine sq (opk_gcall aS rfl rfl (g := true) (e := (decide (l = 1))) rfl (fun hg => r_call (args := #[.pointer k, .int .i64 al]) Try.func46 (by decide) rfl (map_arr (ml_cons (cv_get (aS.get rfl) hg) (ml_cons (cv_get (aS.get rfl) hg) ml_nil))) rfl) (fun hg => cT (of_decide_eq_false (g_f hg))) fun fB u bB _ bC => ?_)
  have fC : Chg [] r u := bC
  have bD := cU u bC
  refine sq (opk_gval bB rfl rfl (g := true) (e := (decide (l = 1))) rfl (fun hg => r_not (cv_get (bB.get rfl) hg)) fun fD aT _ => ?_)
  refine sqv aT rfl (r_pick_or (g := (true && ((decide (l = 1)) == false))) (aT.get rfl) (aT.get rfl) (fun he => g_mkf rfl he)) fun _ bF => ?_
  refine sqv bF rfl (r_assign (bF.get rfl)) fun _ cX => ?_
  refine sq_end ?_
  have au := cX.keep [(0, .pointer (some i)), (1, .int .i64 d), (2, .int .i64 f), (3, .int .i64 c), (9, .pointer j), (10, .pointer k), (25, .bool ((decide (l = 1)) || (!ad)))] ⟨rfl, rfl, rfl, rfl, rfl, rfl, rfl, trivial⟩
  refine then_normal ?_
  refine wp_cond_split (au.get rfl) (fun hc => ?_) (fun hc => ?_)
  ·have cY := bD.1 ((b_or_t hc).imp (fun h => (of_decide_eq_true h)) (fun h => (b_not_t h)))
   clear hc
   refine wp_seq (wp_region_lit ?_)
   refine sqv au rfl (r_assign rfl) fun _ cZ => ?_
   refine sq_end ?_
   have bG := cZ.keep [(8, .int .i64 4)] ⟨rfl, trivial⟩
   refine then_normal ?_
   refine wp_ret ?_
   refine block_ret ?_
   refine then_ret ?_
   exact res_all (vs := [.int .i64 4]) rfl bG ⟨res_of_tmp bG rfl, trivial⟩ cY
  ·have c0 := bD.2 ⟨(of_decide_eq_false (b_or_f hc).1), (b_not_f (b_or_f hc).2)⟩
   clear hc
   refine wp_seq (wp_region_lit ?_)
   refine sqv au rfl (r_move (au.get rfl)) fun _ bH => ?_
   refine sqv bH rfl (r_move (bH.get rfl)) fun _ bI => ?_
   refine sqv bI rfl (r_move (bI.get rfl)) fun _ av => ?_
   refine sq (opk_call av rfl (r_call (args := #[.pointer (some i), .int .i64 d, .int .i64 f]) Try.func59 (by decide) rfl (map_arr (ml_cons (av.get rfl) (ml_cons (av.get rfl) (ml_cons (av.get rfl) ml_nil)))) rfl) c0 fun fF fG x bJ _ fH fI c1 => ?_)
   obtain ⟨af, rfl, bK⟩ := c1
   refine sqv bJ rfl (r_assign (bJ.get rfl)) fun _ c2 => ?_
   refine sq_end ?_
   have ax := c2.keep [(0, .pointer (some i)), (1, .int .i64 d), (2, .int .i64 f), (3, .int .i64 c), (9, .pointer j), (10, .pointer k), (42, .bool af)] ⟨rfl, rfl, rfl, rfl, rfl, rfl, rfl, trivial⟩
   refine then_normal ?_
   refine wp_cond_split (ax.get rfl) (fun hc => ?_) (fun hc => ?_)
   ·have c3 := bK.1 hc
    clear hc
    refine wp_seq (wp_region_lit ?_)
    refine sqv ax rfl (r_assign rfl) fun _ c4 => ?_
    refine sq_end ?_
    have bL := c4.keep [(8, .int .i64 6)] ⟨rfl, trivial⟩
    refine then_normal ?_
    refine wp_ret ?_
    refine block_ret ?_
    refine then_ret ?_
    exact res_all (vs := [.int .i64 6]) rfl bL ⟨res_of_tmp bL rfl, trivial⟩ c3
   ·have c5 := bK.2 hc
    clear hc
    refine wp_skip ?_
    refine block_normal ?_
    refine then_normal (wp_seq (wp_region_lit ?_))
    refine sqv ax rfl (r_move (ax.get rfl)) fun _ bM => ?_
    obtain ⟨aF, c6, c7⟩ := c5
    refine sqv bM rfl (r_nilCheckP (((bM.get rfl)).trans (congrArg Value.pointer c6))) fun _ bN => ?_
    refine sqv bN rfl (r_fieldAddr (bN.get rfl) Try.underlying76 rfl ti_36 (by decide)) fun _ bO => ?_
    obtain ⟨m, c8, c9⟩ := c7
    refine sqv bO rfl (r_load1 Try.underlying36 rfl (bO.get rfl) c8) fun _ bP => ?_
    refine sqv bP rfl (r_len (bP.get rfl) Try.underlying36) fun _ bQ => ?_
    refine sqv bQ rfl (r_assign (bQ.get rfl)) fun _ da => ?_
    refine sq_end ?_
    have bR := da.keep [(0, .pointer (some i)), (1, .int .i64 d), (2, .int .i64 f), (3, .int .i64 c), (9, .pointer j), (10, .pointer k), (11, .int .i64 (m.n : Int))] ⟨rfl, rfl, rfl, rfl, rfl, rfl, rfl, trivial⟩
    refine then_normal (wp_seq (wp_seq (wp_region_lit ?_)))
    refine sqv bR rfl (r_move (bR.get rfl)) fun _ bS => ?_
    obtain ⟨aG, db, dc⟩ := c9
    refine sqv bS rfl (r_nilCheckP (((bS.get rfl)).trans (congrArg Value.pointer db))) fun _ bT => ?_
    refine sqv bT rfl (r_fieldAddr (bT.get rfl) Try.underlying76 rfl ti_3 (by decide)) fun _ bU => ?_
    obtain ⟨ag, dd, df⟩ := dc
    refine sqv bU rfl (r_load1 Try.underlying3 rfl (bU.get rfl) dd) fun _ bV => ?_
    refine sqv bV rfl (r_move (bV.get rfl)) fun _ aU => ?_
    refine sqv aU rfl (r_eql (aU.get rfl) (aU.get rfl)) fun _ dg => ?_
    refine sq_end ?_
    have ay := dg.keep [(0, .pointer (some i)), (1, .int .i64 d), (2, .int .i64 f), (3, .int .i64 c), (9, .pointer j), (10, .pointer k), (11, .int .i64 (m.n : Int)), (57, .bool (decide (ag = f)))] ⟨rfl, rfl, rfl, rfl, rfl, rfl, rfl, rfl, trivial⟩
    refine then_normal ?_
    obtain ⟨ah, bX, dh⟩ := df
    refine wp_meet (fun a w => ∃ p : Int, Ag 95 a [(0, .pointer (some i)), (1, .int .i64 d), (2, .int .i64 f), (3, .int .i64 c), (9, .pointer j), (10, .pointer k), (11, .int .i64 p)] ∧ ah p w) ?_ ?_
    ·refine wp_cond_split (ay.get rfl) (fun hc => ?_) (fun hc => ?_)
     ·have di := bX.1 (of_decide_eq_true hc)
      clear hc
      refine wp_region_lit ?_
      refine sqv ay rfl (r_move (ay.get rfl)) fun _ bY => ?_
      obtain ⟨dj, dk⟩ := di
      refine sqv bY rfl (r_subI (bY.get rfl) rfl dj) fun _ bZ => ?_
      refine sqv bZ rfl (r_assign (bZ.get rfl)) fun _ dl => ?_
      refine sq_end ?_
      have dm := dl.keep [(0, .pointer (some i)), (1, .int .i64 d), (2, .int .i64 f), (3, .int .i64 c), (9, .pointer j), (10, .pointer k), (11, .int .i64 ((m.n : Int) - 1))] ⟨rfl, rfl, rfl, rfl, rfl, rfl, rfl, trivial⟩
      have dn := dm.keep [(0, .pointer (some i)), (1, .int .i64 d), (2, .int .i64 f), (3, .int .i64 c), (9, .pointer j), (10, .pointer k), (11, .int .i64 ((m.n : Int) - 1))] ⟨rfl, rfl, rfl, rfl, rfl, rfl, rfl, trivial⟩
      exact then_normal ⟨(m.n : Int) - 1, dn, dk⟩
     ·have dp := bX.2 (of_decide_eq_false hc)
      clear hc
      refine wp_skip ?_
      have dq := ay.keep [(0, .pointer (some i)), (1, .int .i64 d), (2, .int .i64 f), (3, .int .i64 c), (9, .pointer j), (10, .pointer k), (11, .int .i64 (m.n : Int))] ⟨rfl, rfl, rfl, rfl, rfl, rfl, rfl, trivial⟩
      exact then_normal ⟨(m.n : Int), dq, dp⟩
    ·intro fJ ai hm
     obtain ⟨p, b0, dr⟩ := hm
     have b1 := dh p ai dr
     refine then_normal (wp_seq (wp_block (wp_seq (wp_region_lit ?_))))
     refine sqv b0 rfl (r_move (b0.get rfl)) fun _ b2 => ?_
     refine sqv b2 rfl (r_lss (b2.get rfl) rfl) fun _ b3 => ?_
     refine sqv b3 rfl (r_move (b3.get rfl)) fun _ b4 => ?_
     refine sq (opk_gval b4 rfl rfl (g := true) (e := (decide (c < 0))) rfl (fun hg => r_move (b4.get rfl)) fun fK b5 _ => ?_)
     refine sq (opk_gval b5 rfl rfl (g := true) (e := (decide (c < 0))) rfl (fun hg => r_move (b5.get rfl)) fun fL aV _ => ?_)
     refine sq (opk_gval aV rfl rfl (g := true) (e := (decide (c < 0))) rfl (fun hg => r_gtr (cv_get (aV.get rfl) hg) (cv_get (aV.get rfl) hg)) fun fM aX _ => ?_)
     refine sqv aX rfl (r_pick_or (g := (true && ((decide (c < 0)) == false))) (aX.get rfl) (aX.get rfl) (fun he => g_mkf rfl he)) fun _ b6 => ?_
     refine sqv b6 rfl (r_assign (b6.get rfl)) fun _ ds => ?_
     refine sq_end ?_
     have az := ds.keep [(0, .pointer (some i)), (1, .int .i64 d), (2, .int .i64 f), (3, .int .i64 c), (9, .pointer j), (10, .pointer k), (60, .bool ((decide (c < 0)) || (decide (p < c))))] ⟨rfl, rfl, rfl, rfl, rfl, rfl, rfl, trivial⟩
     refine then_normal ?_
     refine wp_cond_split (az.get rfl) (fun hc => ?_) (fun hc => ?_)
     ·have dt := b1.1 ((b_or_t hc).imp (fun h => (of_decide_eq_true h)) (fun h => (of_decide_eq_true h)))
      clear hc
      refine wp_seq (wp_region_lit ?_)
      refine sqv az rfl (r_assign rfl) fun _ du => ?_
      refine sq_end ?_
      have b7 := du.keep [(8, .int .i64 5)] ⟨rfl, trivial⟩
      refine then_normal ?_
      refine wp_ret ?_
      refine block_ret ?_
      refine then_ret ?_
      exact res_all (vs := [.int .i64 5]) rfl b7 ⟨res_of_tmp b7 rfl, trivial⟩ dt
     ·have dv := b1.2 ⟨(of_decide_eq_false (b_or_f hc).1), (of_decide_eq_false (b_or_f hc).2)⟩
      clear hc
      refine wp_seq (wp_region_lit ?_)
      refine sqv az rfl (r_move (az.get rfl)) fun _ b8 => ?_
      refine sqv b8 rfl (r_move (b8.get rfl)) fun _ aY => ?_
      refine sq (opk_call aY rfl (r_call (args := #[.pointer (some i), .int .i64 f]) Try.func47 (by decide) rfl (map_arr (ml_cons (aY.get rfl) (ml_cons (aY.get rfl) ml_nil))) rfl) dv fun fN fO a5 b9 _ fP fQ dx => ?_)
      obtain ⟨y, rfl, dy⟩ := dx
      refine sqv b9 rfl (r_move (b9.get rfl)) fun _ ca => ?_
      refine sqv ca rfl (r_move (ca.get rfl)) fun _ aZ => ?_
      refine sq (opk_call aZ rfl (r_call (args := #[.pointer (some i), .int .i64 d]) Try.func60 (by decide) rfl (map_arr (ml_cons (aZ.get rfl) (ml_cons (aZ.get rfl) ml_nil))) rfl) dy fun fR fS aH hA177 _ fT fU dz => ?_)
      obtain ⟨z, rfl, dA⟩ := dz
      obtain ⟨dB, cb⟩ := dA
      refine sqv hA177 rfl (r_addI (hA177.get rfl) (hA177.get rfl) dB) fun _ cc => ?_
      refine sqv cc rfl (r_gtr (cc.get rfl) rfl) fun _ cd => ?_
      refine sqv cd rfl (r_assign (cd.get rfl)) fun _ dC => ?_
      refine sq_end ?_
      have aA := dC.keep [(0, .pointer (some i)), (1, .int .i64 d), (2, .int .i64 f), (3, .int .i64 c), (9, .pointer j), (10, .pointer k), (68, .bool (decide (60 < (y + z))))] ⟨rfl, rfl, rfl, rfl, rfl, rfl, rfl, trivial⟩
      refine then_normal ?_
      refine wp_cond_split (aA.get rfl) (fun hc => ?_) (fun hc => ?_)
      ·have dD := cb.1 (of_decide_eq_true hc)
       clear hc
       refine wp_seq (wp_region_lit ?_)
       refine sqv aA rfl (r_assign rfl) fun _ dF => ?_
       refine sq_end ?_
       have cf := dF.keep [(8, .int .i64 2)] ⟨rfl, trivial⟩
       refine then_normal ?_
       refine wp_ret ?_
       refine block_ret ?_
       refine then_ret ?_
       exact res_all (vs := [.int .i64 2]) rfl cf ⟨res_of_tmp cf rfl, trivial⟩ dD
      ·have dG := cb.2 (of_decide_eq_false hc)
       clear hc
       refine wp_skip ?_
       refine block_normal ?_
       refine then_normal (wp_seq (wp_region_lit ?_))
       refine sqv aA rfl (r_move (aA.get rfl)) fun _ cg => ?_
       refine sqv cg rfl (r_move (cg.get rfl)) fun _ a1 => ?_
       refine sq (opk_call a1 rfl (r_call (args := #[.pointer (some i), .int .i64 d]) Try.func57 (by decide) rfl (map_arr (ml_cons (a1.get rfl) (ml_cons (a1.get rfl) ml_nil))) rfl) dG fun fV fX aI dH _ fY fZ dI => ?_)
       obtain ⟨rfl, dJ⟩ := dI
       refine sq_end ?_
       have ch := dH.keep [(1, .int .i64 d), (2, .int .i64 f), (3, .int .i64 c), (9, .pointer j), (10, .pointer k)] ⟨rfl, rfl, rfl, rfl, rfl, trivial⟩
       refine then_normal (wp_seq (wp_region_lit ?_))
       refine sqv ch rfl (r_move (ch.get rfl)) fun _ ci => ?_
       refine sqv ci rfl (r_move (ci.get rfl)) fun _ cj => ?_
       obtain ⟨aJ, dK, dL⟩ := dJ
       refine sqv cj rfl (r_nilCheckP (((cj.get rfl)).trans (congrArg Value.pointer dK))) fun _ ck => ?_
       refine sqv ck rfl (r_fieldAddr (ck.get rfl) Try.underlying76 rfl ti_3 (by decide)) fun _ a2 => ?_
       obtain ⟨aa, am, aK, an, dM, cl, dN, f0, dO⟩ := dL
       refine sq (opk_store a2 cl (r_store (vs := [.int .i64 f]) (((a2.get rfl)).trans (congrArg (fun a => Value.pointer (some a)) dM)) (a2.get rfl) rfl ti_3 cl (Nat.ble_eq_true_of_le dN) (ones_all [.int .i64 f] rfl)) fun f1 q dP dQ dR => ?_)
       have dS := dO q dP dQ
       refine sq_end ?_
       have cm := dR.keep [(1, .int .i64 d), (3, .int .i64 c), (10, .pointer k)] ⟨rfl, rfl, rfl, trivial⟩
       refine then_normal (wp_seq (wp_region_lit ?_))
       refine sqv cm rfl (r_move (cm.get rfl)) fun _ cn => ?_
       refine sqv cn rfl (r_move (cn.get rfl)) fun _ co => ?_
       obtain ⟨aL, dT, dU⟩ := dS
       refine sqv co rfl (r_nilCheckP (((co.get rfl)).trans (congrArg Value.pointer dT))) fun _ cp => ?_
       refine sqv cp rfl (r_fieldAddr (cp.get rfl) Try.underlying76 rfl ti_36 (by decide)) fun _ cq => ?_
       obtain ⟨ao, dV, dX⟩ := dU
       refine sqv cq rfl (r_load1 Try.underlying36 rfl (cq.get rfl) dV) fun _ cr => ?_
       refine sqv cr rfl (r_move (cr.get rfl)) fun _ ct => ?_
       refine sqv ct rfl (r_move (ct.get rfl)) fun _ cu => ?_
       refine sq (opk_new (fun B => .slice (some ⟨B, 0, none⟩) 1 1) cu rfl (r_buildSlice (vs := #[(0, .int .i64 d)]) (cs := [.int .i64 d]) (map_arr2 (ml2_cons (cu.get rfl) (ml2_nil))) Try.underlying36 ti_3 rfl rfl (by kernel_rfl)) fun f2 s t dY dZ d0 aB _ => ?_)
       have d1 : New q t s := dZ
       have d2 : Chg [] q s := dY
       have d3 := dX s t d1  d2
       have d4 := d3 d0
       refine sq (opk_call aB rfl (r_call (args := #[Sl.v ao, .int .i64 c, Sl.v (Sl.mk (some ⟨t, 0, none⟩) 1 1)]) Try.func49 (by decide) rfl (map_arr (ml_cons (aB.get rfl) (ml_cons (aB.get rfl) (ml_cons (aB.get rfl) ml_nil)))) rfl) d4 fun f3 f4 aM cv _ f5 f6 d5 => ?_)
       obtain ⟨aj, rfl, d6⟩ := d5
       obtain ⟨aN, d7, d8⟩ := d6
       refine sqv cv rfl (r_nilCheckP (((cv.get rfl)).trans (congrArg Value.pointer d7))) fun _ cx => ?_
       refine sqv cx rfl (r_fieldAddr (cx.get rfl) Try.underlying76 rfl ti_36 (by decide)) fun _ a3 => ?_
       obtain ⟨ab, ap, aO, aq, d9, cy, fa, f7, fb⟩ := d8
       refine sq (opk_store a3 cy (r_store (vs := [Sl.v aj]) (((a3.get rfl)).trans (congrArg (fun a => Value.pointer (some a)) d9)) (a3.get rfl) rfl ti_36 cy (Nat.ble_eq_true_of_le fa) (ones_all [Sl.v aj] rfl)) fun f8 ak fc fd ff => ?_)
       have fg := fb ak fc fd
       refine sq_end ?_
       have fh := ff.keep [] trivial
       refine then_normal (wp_seq (wp_region_lit ?_))
       refine sqv fh rfl (r_assign rfl) fun _ fi => ?_
       refine sq_end ?_
       have cz := fi.keep [(8, .int .i64 0)] ⟨rfl, trivial⟩
       refine then_normal ?_
       refine wp_ret ?_
       exact res_all (vs := [.int .i64 0]) rfl cz ⟨res_of_tmp cz rfl, trivial⟩ fg
end Go.Proofs.Ytghmgfkdnolcdaa
