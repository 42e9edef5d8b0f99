/-
  PRINTED BY PROGRAM: for each function its condition (vc), and that this suffices (ok).
-/
import Derived.Test.YteohbfaechfliaaQSlotsAllGT
namespace Go.Proofs.Yteohbfaechfliaa
open Go.RowKit
set_option linter.unusedVariables false
set_option maxHeartbeats 1000000
set_option maxRecDepth 10000
def ref19_M_Add.vc (f : Addr) (c : Int) (d : Int) (R : Value → World → Prop) (w : World) : Prop :=
∃ (k : Sl), (w.cell? (f.add 0) = some (Sl.v k)) ∧
((0 : Int) ≤ c ∧ c < (k.n : Int)) ∧ ∃ r : Addr, k.a = some r ∧
∃ (h l : Nat) (s : TypeId) (m : List Value), (r.add (c.toNat * 1)) = ⟨h, l, none⟩ ∧ Box w h s m ∧ l + 1 ≤ m.length ∧ (∀ b ∈ [], b ≠ h) ∧
(∀ g : World, Chg [h] w g → Box g h s (putAt m l [.int .i64 d]) →
∃ (o : Sl), (g.cell? (f.add 1) = some (Sl.v o)) ∧
((0 : Int) ≤ d ∧ d < (o.n : Int)) ∧ ∃ t : Addr, o.a = some t ∧
∃ (i p : Nat) (u : TypeId) (q : List Value), (t.add (d.toNat * 1)) = ⟨i, p, none⟩ ∧ Box g i u q ∧ p + 1 ≤ q.length ∧ (∀ b ∈ [], b ≠ i) ∧
(∀ j : World, Chg [i] g j → Box j i u (putAt q p [.int .i64 c]) →
R (.tuple #[]) j))
theorem ref19_M_Add.ok (f : Addr) (c : Int) (d : Int) {R : Value → World → Prop} {w : World} (ab : ref19_M_Add.vc f c d R w) : Calls Try.prog 32 #[.pointer (some f), .int .i64 c, .int .i64 d] w (Ret R) := by
 refine enter [.pointer (some f), .int .i64 c, .int .i64 d] Try.func32 rfl Try.ntmps32 rfl ?_
 intro a0 ad
 unfold ref19_M_Add.vc at ab
 refine wp_seq (wp_region_lit ?_)
 refine sqv ad rfl (r_move (ad.get rfl)) fun _ af => sqv af rfl (r_nilCheck (af.get rfl)) fun _ ag => sqv ag rfl (r_fieldAddr (ag.get rfl) Try.underlying74 rfl ti_22 (by decide)) fun _ ah => ?_
 obtain ⟨k, au, av⟩ := ab
 refine sqv ah rfl (r_load1 tU22 rfl (ah.get rfl) au) fun _ ai => sqv ai rfl (r_move (ai.get rfl)) fun _ aj => sqv aj rfl (r_move (aj.get rfl)) fun _ x => ?_
 obtain ⟨ax, r, ay, az⟩ := av
 refine sqv x rfl (r_indexAddr (x.get rfl) (x.get rfl) tU22 ti_3 ax ay) fun _ y => ?_
 obtain ⟨h, l, s, m, aA, ak, aB, aX, aC⟩ := az
 refine sq (opk_store y ak (r_store (vs := [.int .i64 d]) (((y.get rfl)).trans (congrArg (fun a => Value.pointer (some a)) aA)) (y.get rfl) rfl ti_3 ak (Nat.ble_eq_true_of_le aB) (ones_all _ rfl)) fun aY g aD aF aG => ?_)
 have aH := aC g aD aF
 refine sq_end ?_
 have al := aG.kp [(0, .pointer (some f)), (1, .int .i64 c), (2, .int .i64 d)] rfl
 refine then_normal (wp_region_lit ?_)
 refine sqv al rfl (r_move (al.get rfl)) fun _ am => sqv am rfl (r_nilCheck (am.get rfl)) fun _ an => sqv an rfl (r_fieldAddr (an.get rfl) Try.underlying74 rfl ti_22 (by decide)) fun _ ao => ?_
 obtain ⟨o, aI, aJ⟩ := aH
 refine sqv ao rfl (r_load1 tU22 rfl (ao.get rfl) aI) fun _ ap => sqv ap rfl (r_move (ap.get rfl)) fun _ aq => sqv aq rfl (r_move (aq.get rfl)) fun _ z => ?_
 obtain ⟨aK, t, aL, aM⟩ := aJ
 refine sqv z rfl (r_indexAddr (z.get rfl) (z.get rfl) tU22 ti_3 aK aL) fun _ aa => ?_
 obtain ⟨i, p, u, q, aN, ar, aO, aZ, aP⟩ := aM
 refine sq (opk_store aa ar (r_store (vs := [.int .i64 c]) (((aa.get rfl)).trans (congrArg (fun a => Value.pointer (some a)) aN)) (aa.get rfl) rfl ti_3 ar (Nat.ble_eq_true_of_le aO) (ones_all _ rfl)) fun a1 j aQ aR aS => ?_)
 have aT := aP j aQ aR
 refine sq_end ?_
 have aU := aS.kp [] rfl
 refine res_end ?_
 exact res_all (vs := []) rfl aU trivial aT
def ref19_New.vc (d : Int) (c : Int) (R : Value → World → Prop) (w : World) : Prop :=
∀ (j : World) (b : Nat), New w b j → Chg [] w j →
∃ (x : Int → Sl → World → Prop) (z : Int → Sl → World → Nat),
x 0 Sl.nil j ∧
(∀ (f : Int) (k : Sl) (h : World), x f k h →
((f < d) →
∀ (l : World) (p : Nat), New h p l → Chg [] h l →
∀ (_ : Box l p 3 [.int .i64 (-1)]),
RunK Try.prog (Builtin.append_ #[22, 22] 22 #[Sl.v k, Sl.v (Sl.mk (some ⟨p, 0, none⟩) 1 1)]) l [b] (fun v ah => ∃ (q : Sl), v = Sl.v q ∧
(I64 (f + 1)) ∧
∀ (m : World), Chg [b] ah m →
x (f + 1) q m ∧ z (f + 1) q m < z f k h)) ∧
((¬ (f < d)) →
∃ (y : Int → Sl → World → Prop) (aa : Int → Sl → World → Nat),
y 0 Sl.nil h ∧
(∀ (g : Int) (u : Sl) (i : World), y g u i →
((g < c) →
∀ (n : World) (r : Nat), New i r n → Chg [] i n →
∀ (_ : Box n r 3 [.int .i64 (-1)]),
RunK Try.prog (Builtin.append_ #[22, 22] 22 #[Sl.v u, Sl.v (Sl.mk (some ⟨r, 0, none⟩) 1 1)]) n [b] (fun v ai => ∃ (t : Sl), v = Sl.v t ∧
(I64 (g + 1)) ∧
∀ (o : World), Chg [b] ai o →
y (g + 1) t o ∧ aa (g + 1) t o < aa g u i)) ∧
((¬ (g < c)) →
∀ (_ : Box i b 74 [Sl.v k, Sl.v u]),
R (.pointer (some (⟨b, 0, none⟩ : Addr))) i))))
theorem ref19_New.ok (d : Int) (c : Int) {R : Value → World → Prop} {w : World} (ap : ref19_New.vc d c R w) : Calls Try.prog 45 #[.int .i64 d, .int .i64 c] w (Ret R) := by
 refine enter [.int .i64 d, .int .i64 c] Try.func45 rfl Try.ntmps45 rfl ?_
 intro a0 a6
 unfold ref19_New.vc at ap
 refine wp_seq (wp_region_lit ?_)
 refine sqv a6 rfl (r_assign rfl) fun _ a7 => sq_end ?_
 have hA4 := a7.kp [(0, .int .i64 d), (1, .int .i64 c)] rfl
 refine then_normal (wp_seq (wp_region_lit ?_))
 refine sqv hA4 rfl (r_build (vs := #[]) (cells := #[Sl.v Sl.nil, Sl.v Sl.nil]) (map_arr2 ml2_nil) ti_74 Try.underlying74 pl_74 (by kernel_rfl)) fun _ aq => ?_
 refine sq (opk_new (fun B => .pointer (some ⟨B, 0, none⟩)) aq rfl (r_box (cs := [Sl.v Sl.nil, Sl.v Sl.nil]) (aq.get rfl) rfl) fun a8 j b a9 ba bb ar _ => ?_)
 have bd : New w b j := ba
 have bf : Chg [] w j := a9
 refine sqv ar rfl (r_assign (ar.get rfl)) fun _ bg => sq_end ?_
 have bh := bg.kp [(0, .int .i64 d), (1, .int .i64 c), (5, pB b 0)] rfl
 refine then_normal (wp_seq (wp_seq (wp_region_lit ?_)))
 refine sqv bh rfl (r_assign rfl) fun _ bi => sq_end ?_
 have bj := bi.kp [(0, .int .i64 d), (1, .int .i64 c), (5, pB b 0), (6, .int .i64 0)] rfl
 refine then_normal (wp_block ?_)
 have bk := ap j b bd  bf
 obtain ⟨x, z, bl, bm⟩ := bk
 refine wp_loop_st (σ := Int × Sl × World) (fun s a w => Ag 39 a [(0, .int .i64 d), (1, .int .i64 c), (5, pB b 0), (6, .int .i64 s.1)] ∧ Box w b 74 [Sl.v s.2.1, Sl.v Sl.nil] ∧ w = s.2.2 ∧ x s.1 s.2.1 s.2.2) (fun s => z s.1 s.2.1 s.2.2) (0, Sl.nil, j) ⟨bj.kp [(0, .int .i64 d), (1, .int .i64 c), (5, pB b 0), (6, .int .i64 0)] rfl, bb, rfl, bl⟩ ?_
 rintro ⟨f, k, h⟩ cn w_ ⟨au, ab, hw_, bn⟩
 have hw_ : h = w_ := hw_.symm
 subst hw_
 have av := bm f k _ bn
 refine wp_seq (wp_seq (wp_region_lit ?_))
 refine sqv au rfl (r_move (au.get rfl)) fun _ ax => sqv ax rfl (r_move (ax.get rfl)) fun _ aj => sqv aj rfl (r_lss (aj.get rfl) (aj.get rfl)) fun _ bo => sq_end ?_
 have ad := bo.kp [(0, .int .i64 d), (1, .int .i64 c), (5, pB b 0), (6, .int .i64 f), (12, .bool (decide (f < d)))] rfl
 refine then_normal ?_
 refine wp_cond_split (ad.get rfl) (fun hc => ?_) (fun hc => ?_)
 ·have bp := av.1 (of_decide_eq_true hc)
  clear hc
  refine wp_skip ?_
  refine then_normal (wp_seq (wp_block (wp_region_lit ?_)))
  refine sqv ad rfl (r_move (ad.get rfl)) fun _ ay => sqv ay rfl (r_move (ay.get rfl)) fun _ az => sqv az rfl (r_nilCheck (az.get rfl)) fun _ aA => sqv aA rfl (r_fieldAddr (aA.get rfl) Try.underlying74 rfl ti_22 (by decide)) fun _ aB => sqv aB rfl (r_load1 tU22 rfl (aB.get rfl) (ab.cell 0 _ rfl)) fun _ bq => ?_
  refine sq (opk_new (fun B => .slice (some ⟨B, 0, none⟩) 1 1) bq rfl (r_buildSlice (vs := #[(0, .int .i64 (-1))]) (cs := [.int .i64 (-1)]) (map_arr2 (ml2_cons rfl (ml2_nil))) tU22 ti_3 rfl rfl (by kernel_rfl)) fun co l p aC aD br ak _ => ?_)
  have cp : b ≠ p := Nat.ne_of_lt (Nat.lt_of_lt_of_le ab.lt aD.ge)
  have bs : New h p l := aD
  have bt := ab.ext aC
  have bu : Chg [] h l := aC
  have bv := bp l p bs  bu
  have bx := bv br
  refine sq (opk_run ak rfl (fun _ _ hr => r_append (ak.get rfl) (ak.get rfl) hr) bx fun cq cr ah aF _ bz ct bA => ?_)
  obtain ⟨q, rfl, bB⟩ := bA
  have aG := bt.kept bz (.head _)
  refine sqv aF rfl (r_nilCheck (aF.get rfl)) fun _ aH => sqv aH rfl (r_fieldAddr (aH.get rfl) Try.underlying74 rfl ti_22 (by decide)) fun _ al => ?_
  refine sq (opk_store al aG (r_store (vs := [Sl.v q]) (al.get rfl) (al.get rfl) rfl ti_22 aG rfl (ones_all _ rfl)) fun cu m bC bD bF => ?_)
  have bG : Box m b 74 [Sl.v q, Sl.v Sl.nil] := bD
  have bH : Chg [b] ah m := bC
  refine sq_end ?_
  have aI := bF.kp [(0, .int .i64 d), (1, .int .i64 c), (5, pB b 0), (6, .int .i64 f)] rfl
  refine block_normal ?_
  refine then_normal (wp_region_lit ?_)
  refine sqv aI rfl (r_move (aI.get rfl)) fun _ aJ => ?_
  obtain ⟨bI, bJ⟩ := bB
  refine sqv aJ rfl (r_addI (aJ.get rfl) rfl bI) fun _ aK => sqv aK rfl (r_assign (aK.get rfl)) fun _ bK => sq_end ?_
  have bL := bK.kp [(0, .int .i64 d), (1, .int .i64 c), (5, pB b 0), (6, .int .i64 (f + 1))] rfl
  have aL := bJ m    bH
  have bM := bL.kp [(0, .int .i64 d), (1, .int .i64 c), (5, pB b 0), (6, .int .i64 (f + 1))] rfl
  exact then_normal ⟨(f + 1, q, m), ⟨bM, bG, rfl, aL.1⟩, aL.2⟩
 ·have bN := av.2 (of_decide_eq_false hc)
  clear hc
  refine wp_exit ?_
  refine then_exit ?_
  refine then_exit ?_
  refine block_hit ?_
  have bO := ad.kp [(1, .int .i64 c), (5, pB b 0)] rfl
  refine then_normal (wp_seq (wp_seq (wp_region_lit ?_)))
  refine sqv bO rfl (r_assign rfl) fun _ bP => sq_end ?_
  have bQ := bP.kp [(1, .int .i64 c), (5, pB b 0), (7, .int .i64 0)] rfl
  refine then_normal (wp_block ?_)
  obtain ⟨y, aa, bR, bS⟩ := bN
  refine wp_loop_st (σ := Int × Sl × World) (fun s a w => Ag 39 a [(1, .int .i64 c), (5, pB b 0), (7, .int .i64 s.1)] ∧ Box w b 74 [Sl.v k, Sl.v s.2.1] ∧ w = s.2.2 ∧ y s.1 s.2.1 s.2.2) (fun s => aa s.1 s.2.1 s.2.2) (0, Sl.nil, h) ⟨bQ.kp [(1, .int .i64 c), (5, pB b 0), (7, .int .i64 0)] rfl, ab, rfl, bR⟩ ?_
  rintro ⟨g, u, i⟩ cv w_ ⟨aM, af, hw_, bT⟩
  have hw_ : i = w_ := hw_.symm
  subst hw_
  have aN := bS g u _ bT
  refine wp_seq (wp_seq (wp_region_lit ?_))
  refine sqv aM rfl (r_move (aM.get rfl)) fun _ aO => sqv aO rfl (r_move (aO.get rfl)) fun _ am => sqv am rfl (r_lss (am.get rfl) (am.get rfl)) fun _ bU => sq_end ?_
  have ag := bU.kp [(1, .int .i64 c), (5, pB b 0), (7, .int .i64 g), (26, .bool (decide (g < c)))] rfl
  refine then_normal ?_
  refine wp_cond_split (ag.get rfl) (fun hc => ?_) (fun hc => ?_)
  ·have bV := aN.1 (of_decide_eq_true hc)
   clear hc
   refine wp_skip ?_
   refine then_normal (wp_seq (wp_block (wp_region_lit ?_)))
   refine sqv ag rfl (r_move (ag.get rfl)) fun _ aP => sqv aP rfl (r_move (aP.get rfl)) fun _ aQ => sqv aQ rfl (r_nilCheck (aQ.get rfl)) fun _ aR => sqv aR rfl (r_fieldAddr (aR.get rfl) Try.underlying74 rfl ti_22 (by decide)) fun _ aS => sqv aS rfl (r_load1 tU22 rfl (aS.get rfl) (af.cell 1 _ rfl)) fun _ bX => ?_
   refine sq (opk_new (fun B => .slice (some ⟨B, 0, none⟩) 1 1) bX rfl (r_buildSlice (vs := #[(0, .int .i64 (-1))]) (cs := [.int .i64 (-1)]) (map_arr2 (ml2_cons rfl (ml2_nil))) tU22 ti_3 rfl rfl (by kernel_rfl)) fun cx n r aT aU bY an _ => ?_)
   have cy : b ≠ r := Nat.ne_of_lt (Nat.lt_of_lt_of_le af.lt aU.ge)
   have bZ : New i r n := aU
   have b0 := af.ext aT
   have b1 : Chg [] i n := aT
   have b2 := bV n r bZ  b1
   have b3 := b2 bY
   refine sq (opk_run an rfl (fun _ _ hr => r_append (an.get rfl) (an.get rfl) hr) b3 fun cz cA ai aV _ b4 cB b5 => ?_)
   obtain ⟨t, rfl, b6⟩ := b5
   have aX := b0.kept b4 (.head _)
   refine sqv aV rfl (r_nilCheck (aV.get rfl)) fun _ aY => sqv aY rfl (r_fieldAddr (aY.get rfl) Try.underlying74 rfl ti_22 (by decide)) fun _ ao => ?_
   refine sq (opk_store ao aX (r_store (vs := [Sl.v t]) (ao.get rfl) (ao.get rfl) rfl ti_22 aX rfl (ones_all _ rfl)) fun cC o b7 b8 b9 => ?_)
   have ca : Box o b 74 [Sl.v k, Sl.v t] := b8
   have cb : Chg [b] ai o := b7
   refine sq_end ?_
   have aZ := b9.kp [(1, .int .i64 c), (5, pB b 0), (7, .int .i64 g)] rfl
   refine block_normal ?_
   refine then_normal (wp_region_lit ?_)
   refine sqv aZ rfl (r_move (aZ.get rfl)) fun _ hA338 => ?_
   obtain ⟨cc, cd⟩ := b6
   refine sqv hA338 rfl (r_addI (hA338.get rfl) rfl cc) fun _ a1 => sqv a1 rfl (r_assign (a1.get rfl)) fun _ cf => sq_end ?_
   have cg := cf.kp [(1, .int .i64 c), (5, pB b 0), (7, .int .i64 (g + 1))] rfl
   have a2 := cd o    cb
   have ch := cg.kp [(1, .int .i64 c), (5, pB b 0), (7, .int .i64 (g + 1))] rfl
   exact then_normal ⟨(g + 1, t, o), ⟨ch, ca, rfl, a2.1⟩, a2.2⟩
  ·have ci := aN.2 (of_decide_eq_false hc)
   clear hc
   refine wp_exit ?_
   refine then_exit ?_
   refine then_exit ?_
   refine block_hit ?_
   have a3 := ag.kp [(5, pB b 0)] rfl
   refine then_normal (wp_seq (wp_region_lit ?_))
   refine sqv a3 rfl (r_move (a3.get rfl)) fun _ a4 => sqv a4 rfl (r_assign (a4.get rfl)) fun _ cj => sq_end ?_
   have a5 := cj.kp [(4, pB b 0)] rfl
   refine then_normal ?_
   refine wp_ret ?_
   have ck := ci af
   exact res_all (vs := [pB b 0]) rfl a5 ⟨res_of_tmp a5 rfl, trivial⟩ ck
end Go.Proofs.Yteohbfaechfliaa
