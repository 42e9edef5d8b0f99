/-
  PRINTED BY PROGRAM: for each function its condition (vc), and that this suffices (ok).
-/
import Derived.Test.YteohbfaechfliaaQSlotsAllGT
namespace Go.Proofs.Yteohbfaechfliaa
open Go.RowKit
set_option linter.unusedVariables false
set_option maxHeartbeats 1000000
set_option maxRecDepth 10000
def ref05_Attr.vc (c : Sl) (d : Str) (R : Value → World → Prop) (w : World) : Prop :=
∃ (g : Int → World → Prop) (k : Int → World → Nat),
g 0 w ∧
(∀ (b : Int) (f : World), g b f →
((b < (c.n : Int)) →
((0 : Int) ≤ b ∧ b < (c.n : Int)) ∧ ∃ m : Addr, c.a = some m ∧
∃ (h : Str), (f.cell? ((m.add (b.toNat * 2)).add 0) = some (.string (Bs h))) ∧
((h = d) →
((0 : Int) ≤ b ∧ b < (c.n : Int)) ∧ ∃ o : Addr, c.a = some o ∧
∃ (i : Str), (f.cell? ((o.add (b.toNat * 2)).add 1) = some (.string (Bs i))) ∧
R (.tuple #[.string (Bs i), .bool true]) f) ∧
((¬ (h = d)) →
(I64 (b + 1)) ∧
g (b + 1) f ∧ k (b + 1) f < k b f)) ∧
((¬ (b < (c.n : Int))) →
R (.tuple #[.string (Bs []), .bool false]) f))
theorem ref05_Attr.ok (c : Sl) (d : Str) {R : Value → World → Prop} {w : World} (y : ref05_Attr.vc c d R w) : Calls Try.prog 13 #[Sl.v c, .string (Bs d)] w (Ret R) := by
 refine enter [Sl.v c, .string (Bs d)] Try.func13 rfl Try.ntmps13 rfl ?_
 intro a0 ar
 unfold ref05_Attr.vc at y
 refine wp_seq (wp_region_lit ?_)
 refine sqv ar rfl (r_assign rfl) fun _ au => sqv au rfl (r_assign rfl) fun _ av => sq_end ?_
 have ax := av.kp [(0, Sl.v c), (1, .string (Bs d))] rfl
 refine then_normal (wp_seq (wp_seq (wp_region_lit ?_)))
 refine sqv ax rfl (r_assign rfl) fun _ ay => sq_end ?_
 have az := ay.kp [(0, Sl.v c), (1, .string (Bs d)), (6, .int .i64 0)] rfl
 refine then_normal (wp_block ?_)
 obtain ⟨g, k, aA, aB⟩ := y
 refine wp_loop_st (σ := Int × World) (fun s a w => Ag 25 a [(0, Sl.v c), (1, .string (Bs d)), (6, .int .i64 s.1)] ∧ w = s.2 ∧ g s.1 s.2) (fun s => k s.1 s.2) (0, w) ⟨az.kp [(0, Sl.v c), (1, .string (Bs d)), (6, .int .i64 0)] rfl, rfl, aA⟩ ?_
 rintro ⟨b, f⟩ a4 w_ ⟨z, hw_, aC⟩
 have hw_ : f = w_ := hw_.symm
 subst hw_
 have aa := aB b _ aC
 refine wp_seq (wp_seq (wp_region_lit ?_))
 refine sqv z rfl (r_move (z.get rfl)) fun _ ab => sqv ab rfl (r_move (ab.get rfl)) fun _ ad => sqv ad rfl (r_len (ad.get rfl) tU23) fun _ p => sqv p rfl (r_lss (p.get rfl) (p.get rfl)) fun _ aD => sq_end ?_
 have l := aD.kp [(0, Sl.v c), (1, .string (Bs d)), (6, .int .i64 b), (10, .bool (decide (b < (c.n : Int))))] rfl
 refine then_normal ?_
 refine wp_cond_split (l.get rfl) (fun hc => ?_) (fun hc => ?_)
 ·have aF := aa.1 (of_decide_eq_true hc)
  clear hc
  refine wp_skip ?_
  refine then_normal (wp_seq (wp_block (wp_seq (wp_region_lit ?_))))
  refine sqv l rfl (r_move (l.get rfl)) fun _ af => sqv af rfl (r_move (af.get rfl)) fun _ q => ?_
  obtain ⟨aG, m, aH, aI⟩ := aF
  refine sqv q rfl (r_indexAddr (q.get rfl) (q.get rfl) tU23 ti_47 aG aH) fun _ ag => sqv ag rfl (r_fieldAddr (ag.get rfl) Try.underlying47 rfl ti_9 (by decide)) fun _ ah => ?_
  obtain ⟨h, aJ, ai⟩ := aI
  refine sqv ah rfl (r_load1 tU9 rfl (ah.get rfl) aJ) fun _ aj => sqv aj rfl (r_move (aj.get rfl)) fun _ r => sqv r rfl (r_seql (r.get rfl) (r.get rfl)) fun _ aK => sq_end ?_
  have j := aK.kp [(0, Sl.v c), (1, .string (Bs d)), (6, .int .i64 b), (19, .bool (decide (h = d)))] rfl
  refine then_normal ?_
  refine wp_cond_split (j.get rfl) (fun hc => ?_) (fun hc => ?_)
  ·have aL := ai.1 (of_decide_eq_true hc)
   clear hc
   refine wp_seq (wp_region_lit ?_)
   refine sqv j rfl (r_move (j.get rfl)) fun _ ak => sqv ak rfl (r_move (ak.get rfl)) fun _ t => ?_
   obtain ⟨aM, o, aN, aO⟩ := aL
   refine sqv t rfl (r_indexAddr (t.get rfl) (t.get rfl) tU23 ti_47 aM aN) fun _ al => sqv al rfl (r_fieldAddr (al.get rfl) Try.underlying47 rfl ti_9 (by decide)) fun _ am => ?_
   obtain ⟨i, aP, aQ⟩ := aO
   refine sqv am rfl (r_load1 tU9 rfl (am.get rfl) aP) fun _ an => sqv an rfl (r_assign (an.get rfl)) fun _ aR => sqv aR rfl (r_assign rfl) fun _ aS => sq_end ?_
   have u := aS.kp [(4, .string (Bs i)), (5, .bool true)] rfl
   refine then_normal ?_
   refine wp_ret ?_
   refine block_ret ?_
   refine then_ret ?_
   refine then_ret ?_
   refine block_ret ?_
   refine then_ret ?_
   exact res_all (vs := [.string (Bs i), .bool true]) rfl u ⟨res_of_tmp u rfl, res_of_tmp u rfl, trivial⟩ aQ
  ·have aT := ai.2 (of_decide_eq_false hc)
   clear hc
   refine wp_skip ?_
   refine block_normal ?_
   refine then_normal (wp_region_lit ?_)
   refine sqv j rfl (r_move (j.get rfl)) fun _ ao => ?_
   obtain ⟨aU, ap⟩ := aT
   refine sqv ao rfl (r_addI (ao.get rfl) rfl aU) fun _ aq => sqv aq rfl (r_assign (aq.get rfl)) fun _ aV => sq_end ?_
   have aX := aV.kp [(0, Sl.v c), (1, .string (Bs d)), (6, .int .i64 (b + 1))] rfl
   have aY := aX.kp [(0, Sl.v c), (1, .string (Bs d)), (6, .int .i64 (b + 1))] rfl
   exact then_normal ⟨(b + 1, f), ⟨aY, rfl, ap.1⟩, ap.2⟩
 ·have aZ := aa.2 (of_decide_eq_false hc)
  clear hc
  refine wp_exit ?_
  refine then_exit ?_
  refine then_exit ?_
  refine block_hit ?_
  have hA109 := l.kp [] rfl
  refine then_normal (wp_seq (wp_region_lit ?_))
  refine sqv hA109 rfl (r_assign rfl) fun _ a1 => sqv a1 rfl (r_assign rfl) fun _ a2 => sq_end ?_
  have x := a2.kp [(4, .string (Bs [])), (5, .bool false)] rfl
  refine then_normal ?_
  refine wp_ret ?_
  exact res_all (vs := [.string (Bs []), .bool false]) rfl x ⟨res_of_tmp x rfl, res_of_tmp x rfl, trivial⟩ aZ
def ref05_Size.vc (j : Int) (k : Str) (l : Str) (m : Sl) (f : Sl) (R : Value → World → Prop) (w : World) : Prop :=
∀ (h : World) (d : Nat), New w d h → Chg [] w h →
∃ (o : Int → Int → World → Prop) (p : Int → Int → World → Nat),
o 1 0 h ∧
(∀ (c : Int) (b : Int) (i : World), o c b i →
((b < (f.n : Int)) →
((0 : Int) ≤ b ∧ b < (f.n : Int)) ∧ ∃ aa : Addr, f.a = some aa ∧
∃ (q : Int) (r : Str) (t : Str) (u : Sl) (x : Sl), (Cells i (aa.add (b.toNat * 5)) [.int .i64 q, .string (Bs r), .string (Bs t), Sl.v u, Sl.v x]) ∧
CallK Try.prog 15 #[.agg #[.int .i64 q, .string (Bs r), .string (Bs t), Sl.v u, Sl.v x]] i [d] (fun v y => ∃ (g : Int), v = .int .i64 g ∧
(I64 (c + g)) ∧
(I64 (b + 1)) ∧
o (c + g) (b + 1) y ∧ p (c + g) (b + 1) y < p c b i)) ∧
((¬ (b < (f.n : Int))) →
R (.int .i64 c) i))
theorem ref05_Size.ok (j : Int) (k : Str) (l : Str) (m : Sl) (f : Sl) {R : Value → World → Prop} {w : World} (ah : ref05_Size.vc j k l m f R w) : Calls Try.prog 15 #[.agg #[.int .i64 j, .string (Bs k), .string (Bs l), Sl.v m, Sl.v f]] w (Ret R) := by
 refine enter [.agg #[.int .i64 j, .string (Bs k), .string (Bs l), Sl.v m, Sl.v f]] Try.func15 rfl Try.ntmps15 rfl ?_
 intro a0 ai
 unfold ref05_Size.vc at ah
 refine wp_seq (wp_region_lit ?_)
 refine sq (opk_new (fun B => .pointer (some ⟨B, 0, none⟩)) ai rfl (r_box (cs := [.int .i64 j, .string (Bs k), .string (Bs l), Sl.v m, Sl.v f]) (ai.get rfl) rfl) fun a4 h d aF aG aH aI _ => ?_)
 have aJ : New w d h := aG
 have aK : Chg [] w h := aF
 refine sqv aI rfl (r_assign rfl) fun _ aL => sq_end ?_
 have aM := aL.kp [(1, pB d 0)] rfl
 refine then_normal (wp_seq (wp_region_lit ?_))
 refine sqv aM rfl (r_assign rfl) fun _ aN => sq_end ?_
 have aO := aN.kp [(1, pB d 0), (3, .int .i64 1)] rfl
 refine then_normal (wp_seq (wp_seq (wp_region_lit ?_)))
 refine sqv aO rfl (r_assign rfl) fun _ aP => sq_end ?_
 have aQ := aP.kp [(1, pB d 0), (3, .int .i64 1), (4, .int .i64 0)] rfl
 refine then_normal (wp_block ?_)
 have aR := ah h d aJ  aK
 obtain ⟨o, p, aS, aT⟩ := aR
 refine wp_loop_st (σ := Int × Int × World) (fun s a w => Ag 21 a [(1, pB d 0), (3, .int .i64 s.1), (4, .int .i64 s.2.1)] ∧ Box w d 26 [.int .i64 j, .string (Bs k), .string (Bs l), Sl.v m, Sl.v f] ∧ w = s.2.2 ∧ o s.1 s.2.1 s.2.2) (fun s => p s.1 s.2.1 s.2.2) (1, 0, h) ⟨aQ.kp [(1, pB d 0), (3, .int .i64 1), (4, .int .i64 0)] rfl, aH, rfl, aS⟩ ?_
 rintro ⟨c, b, i⟩ bk w_ ⟨aj, ab, hw_, aU⟩
 have hw_ : i = w_ := hw_.symm
 subst hw_
 have ak := aT c b _ aU
 refine wp_seq (wp_seq (wp_region_lit ?_))
 refine sqv aj rfl (r_move (aj.get rfl)) fun _ al => sqv al rfl (r_fieldAddr (al.get rfl) Try.underlying26 rfl ti_24 (by decide)) fun _ am => sqv am rfl (r_load1 tU24 rfl (am.get rfl) (ab.cell 4 _ rfl)) fun _ an => sqv an rfl (r_len (an.get rfl) tU24) fun _ ad => sqv ad rfl (r_lss (ad.get rfl) (ad.get rfl)) fun _ aV => sq_end ?_
 have z := aV.kp [(1, pB d 0), (3, .int .i64 c), (4, .int .i64 b), (9, .bool (decide (b < (f.n : Int))))] rfl
 refine then_normal ?_
 refine wp_cond_split (z.get rfl) (fun hc => ?_) (fun hc => ?_)
 ·have aX := ak.1 (of_decide_eq_true hc)
  clear hc
  refine wp_skip ?_
  refine then_normal (wp_seq (wp_block (wp_region_lit ?_)))
  refine sqv z rfl (r_move (z.get rfl)) fun _ ao => sqv ao rfl (r_fieldAddr (ao.get rfl) Try.underlying26 rfl ti_24 (by decide)) fun _ ap => sqv ap rfl (r_load1 tU24 rfl (ap.get rfl) (ab.cell 4 _ rfl)) fun _ aq => sqv aq rfl (r_move (aq.get rfl)) fun _ af => ?_
  obtain ⟨aY, aa, aZ, ht86⟩ := aX
  refine sqv af rfl (r_indexAddr (af.get rfl) (af.get rfl) tU24 ti_26 aY aZ) fun _ ar => ?_
  obtain ⟨q, r, t, u, x, a1, a2⟩ := ht86
  refine sqv ar rfl (r_loadN Try.underlying26 rfl ti_26 (ar.get rfl) a1) fun _ au => ?_
  refine sq (opk_call au rfl (r_call (args := #[.agg #[.int .i64 q, .string (Bs r), .string (Bs t), Sl.v u, Sl.v x]]) Try.func15 (by decide) rfl (map_arr (ml_cons (au.get rfl) ml_nil)) rfl) a2 fun bl bm y ag _ a3 bn hK98 => ?_)
  obtain ⟨g, rfl, a5⟩ := hK98
  have a6 := ab.kept a3 (.head _)
  obtain ⟨a7, a8⟩ := a5
  refine sqv ag rfl (r_addI (ag.get rfl) (ag.get rfl) a7) fun _ av => sqv av rfl (r_assign (av.get rfl)) fun _ a9 => sq_end ?_
  have ax := a9.kp [(1, pB d 0), (3, .int .i64 (c + g)), (4, .int .i64 b)] rfl
  refine block_normal ?_
  refine then_normal (wp_region_lit ?_)
  refine sqv ax rfl (r_move (ax.get rfl)) fun _ ay => ?_
  obtain ⟨ba, az⟩ := a8
  refine sqv ay rfl (r_addI (ay.get rfl) rfl ba) fun _ aA => sqv aA rfl (r_assign (aA.get rfl)) fun _ bb => sq_end ?_
  have bd := bb.kp [(1, pB d 0), (3, .int .i64 (c + g)), (4, .int .i64 (b + 1))] rfl
  have bf := bd.kp [(1, pB d 0), (3, .int .i64 (c + g)), (4, .int .i64 (b + 1))] rfl
  exact then_normal ⟨(c + g, b + 1, y), ⟨bf, a6, rfl, az.1⟩, az.2⟩
 ·have bg := ak.2 (of_decide_eq_false hc)
  clear hc
  refine wp_exit ?_
  refine then_exit ?_
  refine then_exit ?_
  refine block_hit ?_
  have aB := z.kp [(3, .int .i64 c)] rfl
  refine then_normal (wp_seq (wp_region_lit ?_))
  refine sqv aB rfl (r_move (aB.get rfl)) fun _ aC => sqv aC rfl (r_assign (aC.get rfl)) fun _ bh => sq_end ?_
  have aD := bh.kp [(2, .int .i64 c)] rfl
  refine then_normal ?_
  refine wp_ret ?_
  exact res_all (vs := [.int .i64 c]) rfl aD ⟨res_of_tmp aD rfl, trivial⟩ bg
def ref05_Check.vc (a : Int) (b : Str) (c : Str) (d : Sl) (f : Sl) (R : Value → World → Prop) (w : World) : Prop :=
∀ (i : World) (m : Nat), New w m i → Chg [] w i →
∃ (h : Int), (((a = 1)) → Calls Try.prog 15 #[.agg #[.int .i64 a, .string (Bs b), .string (Bs c), Sl.v d, Sl.v f]] i (Ret fun v w' => Ext i w' ∧ v = .int .i64 h)) ∧
(∀ k : World, Ext i k →
∃ (j : Int), ((((a = 1) ∧ (h ≤ 300))) → Calls Try.prog 50 #[.agg #[.int .i64 a, .string (Bs b), .string (Bs c), Sl.v d, Sl.v f]] k (Ret fun v w' => Ext k w' ∧ v = .int .i64 j)) ∧
(∀ l : World, Ext k l →
∃ (n : Bool), (((((a = 1) ∧ (h ≤ 300)) ∧ (j ≤ 60))) → Calls Try.prog 51 #[.agg #[.int .i64 a, .string (Bs b), .string (Bs c), Sl.v d, Sl.v f], .bool true, .bool false] l (Ret fun v w' => Ext l w' ∧ v = .bool n)) ∧
(∀ o : World, Ext l o →
R (.bool ((((decide (a = 1)) && (decide (h ≤ 300))) && (decide (j ≤ 60))) && n)) o)))
theorem ref05_Check.ok (a : Int) (b : Str) (c : Str) (d : Sl) (f : Sl) {R : Value → World → Prop} {w : World} (y : ref05_Check.vc a b c d f R w) : Calls Try.prog 28 #[.agg #[.int .i64 a, .string (Bs b), .string (Bs c), Sl.v d, Sl.v f]] w (Ret R) := by
 refine enter [.agg #[.int .i64 a, .string (Bs b), .string (Bs c), Sl.v d, Sl.v f]] Try.func28 rfl Try.ntmps28 rfl ?_
 intro a0 z
 unfold ref05_Check.vc at y
 refine wp_seq (wp_region_lit ?_)
 refine sq (opk_new (fun B => .pointer (some ⟨B, 0, none⟩)) z rfl (r_box (cs := [.int .i64 a, .string (Bs b), .string (Bs c), Sl.v d, Sl.v f]) (z.get rfl) rfl) fun a4 i m ax ay p az _ => ?_)
 have aA : New w m i := ay
 have aB : Chg [] w i := ax
 refine sqv az rfl (r_assign rfl) fun _ aC => sq_end ?_
 have aa := aC.kp [(1, pB m 0)] rfl
 refine then_normal (wp_seq (wp_region_lit ?_))
 refine sqv aa rfl (r_fieldAddr (aa.get rfl) Try.underlying26 rfl ti_3 (by decide)) fun _ ab => sqv ab rfl (r_load1 tU3 rfl (ab.get rfl) (p.cell 0 _ rfl)) fun _ ad => sqv ad rfl (r_eql (ad.get rfl) rfl) fun _ af => sqv af rfl (r_move (af.get rfl)) fun _ ag => ?_
 refine sq (opk_gval ag rfl rfl (g := true) (e := (decide (a = 1))) rfl (fun hg => r_loadN (cs := [.int .i64 a, .string (Bs b), .string (Bs c), Sl.v d, Sl.v f]) Try.underlying26 rfl ti_26 (ag.get rfl) (p.part 0 _ rfl)) fun aR ah _ => ?_)
 have aD := y i m aA  aB
 obtain ⟨h, aF, aG⟩ := aD
 refine sq (opk_gcall ah rfl rfl (g := true) (e := (decide (a = 1))) rfl (fun hg => r_call (args := #[.agg #[.int .i64 a, .string (Bs b), .string (Bs c), Sl.v d, Sl.v f]]) Try.func15 (by decide) rfl (map_arr (ml_cons (cv_get (ah.get rfl) hg) ml_nil)) rfl) (fun hg => aF (of_decide_eq_true (g_t hg))) fun aS k ai _ q => ?_)
 have aj := p.ext q
 have aT : Chg [] i k := q
 have aH := aG k q
 refine sq (opk_gval ai rfl rfl (g := true) (e := (decide (a = 1))) rfl (fun hg => r_leq (cv_get (ai.get rfl) hg) rfl) fun aU r _ => ?_)
 refine sqv r rfl (r_pick_and (g := (true && ((decide (a = 1)) == true))) (r.get rfl) (r.get rfl) (fun he => g_mkt rfl he)) fun _ ak => sqv ak rfl (r_move (ak.get rfl)) fun _ al => ?_
 refine sq (opk_gval al rfl rfl (g := true) (e := ((decide (a = 1)) && (decide (h ≤ 300)))) rfl (fun hg => r_loadN (cs := [.int .i64 a, .string (Bs b), .string (Bs c), Sl.v d, Sl.v f]) Try.underlying26 rfl ti_26 (al.get rfl) (aj.part 0 _ rfl)) fun aV am _ => ?_)
 obtain ⟨j, aI, aJ⟩ := aH
 refine sq (opk_gcall am rfl rfl (g := true) (e := ((decide (a = 1)) && (decide (h ≤ 300)))) rfl (fun hg => r_call (args := #[.agg #[.int .i64 a, .string (Bs b), .string (Bs c), Sl.v d, Sl.v f]]) Try.func50 (by decide) rfl (map_arr (ml_cons (cv_get (am.get rfl) hg) ml_nil)) rfl) (fun hg => aI ⟨(of_decide_eq_true (b_and_t (g_t hg)).1), (of_decide_eq_true (b_and_t (g_t hg)).2)⟩) fun aX l an _ s => ?_)
 have ao := aj.ext s
 have aY : Chg [] k l := s
 have aK := aJ l s
 refine sq (opk_gval an rfl rfl (g := true) (e := ((decide (a = 1)) && (decide (h ≤ 300)))) rfl (fun hg => r_leq (cv_get (an.get rfl) hg) rfl) fun aZ t _ => ?_)
 refine sqv t rfl (r_pick_and (g := (true && (((decide (a = 1)) && (decide (h ≤ 300))) == true))) (t.get rfl) (t.get rfl) (fun he => g_mkt rfl he)) fun _ ap => sqv ap rfl (r_move (ap.get rfl)) fun _ aq => ?_
 refine sq (opk_gval aq rfl rfl (g := true) (e := (((decide (a = 1)) && (decide (h ≤ 300))) && (decide (j ≤ 60)))) rfl (fun hg => r_loadN (cs := [.int .i64 a, .string (Bs b), .string (Bs c), Sl.v d, Sl.v f]) Try.underlying26 rfl ti_26 (aq.get rfl) (ao.part 0 _ rfl)) fun a1 ar _ => ?_)
 obtain ⟨n, aL, aM⟩ := aK
 refine sq (opk_gcall ar rfl rfl (g := true) (e := (((decide (a = 1)) && (decide (h ≤ 300))) && (decide (j ≤ 60)))) rfl (fun hg => r_call (args := #[.agg #[.int .i64 a, .string (Bs b), .string (Bs c), Sl.v d, Sl.v f], .bool true, .bool false]) Try.func51 (by decide) rfl (map_arr (ml_cons (cv_get (ar.get rfl) hg) (ml_cons rfl (ml_cons rfl ml_nil)))) rfl) (fun hg => aL ⟨⟨(of_decide_eq_true (b_and_t (b_and_t (g_t hg)).1).1), (of_decide_eq_true (b_and_t (b_and_t (g_t hg)).1).2)⟩, (of_decide_eq_true (b_and_t (g_t hg)).2)⟩) fun a2 o u _ x => ?_)
 have a3 := ao.ext x
 have a5 : Chg [] l o := x
 have aN := aM o x
 refine sqv u rfl (r_pick_and (g := (true && ((((decide (a = 1)) && (decide (h ≤ 300))) && (decide (j ≤ 60))) == true))) (u.get rfl) (u.get rfl) (fun he => g_mkt rfl he)) fun _ au => sqv au rfl (r_assign (au.get rfl)) fun _ aO => sq_end ?_
 have av := aO.kp [(2, .bool ((((decide (a = 1)) && (decide (h ≤ 300))) && (decide (j ≤ 60))) && n))] rfl
 refine then_normal ?_
 refine wp_ret ?_
 exact res_all (vs := [.bool ((((decide (a = 1)) && (decide (h ≤ 300))) && (decide (j ≤ 60))) && n)]) rfl av ⟨res_of_tmp av rfl, trivial⟩ aN
def ref05_Depth.vc (j : Int) (k : Str) (l : Str) (m : Sl) (f : Sl) (R : Value → World → Prop) (w : World) : Prop :=
∀ (g : World) (d : Nat), New w d g → Chg [] w g →
∃ (o : Int → Int → World → Prop) (p : Int → Int → World → Nat),
o 0 0 g ∧
(∀ (c : Int) (b : Int) (i : World), o c b i →
((b < (f.n : Int)) →
((0 : Int) ≤ b ∧ b < (f.n : Int)) ∧ ∃ aa : Addr, f.a = some aa ∧
∃ (q : Int) (r : Str) (t : Str) (u : Sl) (x : Sl), (Cells i (aa.add (b.toNat * 5)) [.int .i64 q, .string (Bs r), .string (Bs t), Sl.v u, Sl.v x]) ∧
CallK Try.prog 50 #[.agg #[.int .i64 q, .string (Bs r), .string (Bs t), Sl.v u, Sl.v x]] i [d] (fun v y => ∃ (h : Int), v = .int .i64 h ∧
(I64 (b + 1)) ∧
o (max c h) (b + 1) y ∧ p (max c h) (b + 1) y < p c b i)) ∧
((¬ (b < (f.n : Int))) →
(I64 (c + 1)) ∧
R (.int .i64 (c + 1)) i))
theorem ref05_Depth.ok (j : Int) (k : Str) (l : Str) (m : Sl) (f : Sl) {R : Value → World → Prop} {w : World} (ah : ref05_Depth.vc j k l m f R w) : Calls Try.prog 50 #[.agg #[.int .i64 j, .string (Bs k), .string (Bs l), Sl.v m, Sl.v f]] w (Ret R) := by
 refine enter [.agg #[.int .i64 j, .string (Bs k), .string (Bs l), Sl.v m, Sl.v f]] Try.func50 rfl Try.ntmps50 rfl ?_
 intro a0 ai
 unfold ref05_Depth.vc at ah
 refine wp_seq (wp_region_lit ?_)
 refine sq (opk_new (fun B => .pointer (some ⟨B, 0, none⟩)) ai rfl (r_box (cs := [.int .i64 j, .string (Bs k), .string (Bs l), Sl.v m, Sl.v f]) (ai.get rfl) rfl) fun a4 g d aG aH aI aJ _ => ?_)
 have aK : New w d g := aH
 have aL : Chg [] w g := aG
 refine sqv aJ rfl (r_assign rfl) fun _ aM => sq_end ?_
 have aN := aM.kp [(1, pB d 0)] rfl
 refine then_normal (wp_seq (wp_region_lit ?_))
 refine sqv aN rfl (r_assign rfl) fun _ aO => sq_end ?_
 have aP := aO.kp [(1, pB d 0), (3, .int .i64 0)] rfl
 refine then_normal (wp_seq (wp_seq (wp_region_lit ?_)))
 refine sqv aP rfl (r_assign rfl) fun _ aQ => sq_end ?_
 have aR := aQ.kp [(1, pB d 0), (3, .int .i64 0), (4, .int .i64 0)] rfl
 refine then_normal (wp_block ?_)
 have aS := ah g d aK  aL
 obtain ⟨o, p, aT, aU⟩ := aS
 refine wp_loop_st (σ := Int × Int × World) (fun s a w => Ag 22 a [(1, pB d 0), (3, .int .i64 s.1), (4, .int .i64 s.2.1)] ∧ Box w d 26 [.int .i64 j, .string (Bs k), .string (Bs l), Sl.v m, Sl.v f] ∧ w = s.2.2 ∧ o s.1 s.2.1 s.2.2) (fun s => p s.1 s.2.1 s.2.2) (0, 0, g) ⟨aR.kp [(1, pB d 0), (3, .int .i64 0), (4, .int .i64 0)] rfl, aI, rfl, aT⟩ ?_
 rintro ⟨c, b, i⟩ bl w_ ⟨aj, ab, hw_, aV⟩
 have hw_ : i = w_ := hw_.symm
 subst hw_
 have ak := aU c b _ aV
 refine wp_seq (wp_seq (wp_region_lit ?_))
 refine sqv aj rfl (r_move (aj.get rfl)) fun _ al => sqv al rfl (r_fieldAddr (al.get rfl) Try.underlying26 rfl ti_24 (by decide)) fun _ am => sqv am rfl (r_load1 tU24 rfl (am.get rfl) (ab.cell 4 _ rfl)) fun _ an => sqv an rfl (r_len (an.get rfl) tU24) fun _ ad => sqv ad rfl (r_lss (ad.get rfl) (ad.get rfl)) fun _ aX => sq_end ?_
 have z := aX.kp [(1, pB d 0), (3, .int .i64 c), (4, .int .i64 b), (9, .bool (decide (b < (f.n : Int))))] rfl
 refine then_normal ?_
 refine wp_cond_split (z.get rfl) (fun hc => ?_) (fun hc => ?_)
 ·have aY := ak.1 (of_decide_eq_true hc)
  clear hc
  refine wp_skip ?_
  refine then_normal (wp_seq (wp_block (wp_region_lit ?_)))
  refine sqv z rfl (r_move (z.get rfl)) fun _ ao => sqv ao rfl (r_fieldAddr (ao.get rfl) Try.underlying26 rfl ti_24 (by decide)) fun _ ap => sqv ap rfl (r_load1 tU24 rfl (ap.get rfl) (ab.cell 4 _ rfl)) fun _ aq => sqv aq rfl (r_move (aq.get rfl)) fun _ af => ?_
  obtain ⟨aZ, aa, hp83, a1⟩ := aY
  refine sqv af rfl (r_indexAddr (af.get rfl) (af.get rfl) tU24 ti_26 aZ hp83) fun _ ar => ?_
  obtain ⟨q, r, t, u, x, a2, a3⟩ := a1
  refine sqv ar rfl (r_loadN Try.underlying26 rfl ti_26 (ar.get rfl) a2) fun _ au => ?_
  refine sq (opk_call au rfl (r_call (args := #[.agg #[.int .i64 q, .string (Bs r), .string (Bs t), Sl.v u, Sl.v x]]) Try.func50 (by decide) rfl (map_arr (ml_cons (au.get rfl) ml_nil)) rfl) a3 fun bm bn y ag _ hn94 bo a5 => ?_)
  obtain ⟨h, rfl, a6⟩ := a5
  have a7 := ab.kept hn94 (.head _)
  refine sqv ag rfl (r_max (ag.get rfl) (ag.get rfl)) fun _ av => sqv av rfl (r_assign (av.get rfl)) fun _ a8 => sq_end ?_
  have ax := a8.kp [(1, pB d 0), (3, .int .i64 (max c h)), (4, .int .i64 b)] rfl
  refine block_normal ?_
  refine then_normal (wp_region_lit ?_)
  refine sqv ax rfl (r_move (ax.get rfl)) fun _ ay => ?_
  obtain ⟨a9, az⟩ := a6
  refine sqv ay rfl (r_addI (ay.get rfl) rfl a9) fun _ aA => sqv aA rfl (r_assign (aA.get rfl)) fun _ ba => sq_end ?_
  have bb := ba.kp [(1, pB d 0), (3, .int .i64 (max c h)), (4, .int .i64 (b + 1))] rfl
  have bd := bb.kp [(1, pB d 0), (3, .int .i64 (max c h)), (4, .int .i64 (b + 1))] rfl
  exact then_normal ⟨(max c h, b + 1, y), ⟨bd, a7, rfl, az.1⟩, az.2⟩
 ·have bf := ak.2 (of_decide_eq_false hc)
  clear hc
  refine wp_exit ?_
  refine then_exit ?_
  refine then_exit ?_
  refine block_hit ?_
  have aB := z.kp [(3, .int .i64 c)] rfl
  refine then_normal (wp_seq (wp_region_lit ?_))
  refine sqv aB rfl (r_move (aB.get rfl)) fun _ aC => ?_
  obtain ⟨bg, bh⟩ := bf
  refine sqv aC rfl (r_addI (aC.get rfl) rfl bg) fun _ aD => sqv aD rfl (r_assign (aD.get rfl)) fun _ bi => sq_end ?_
  have aF := bi.kp [(2, .int .i64 (c + 1))] rfl
  refine then_normal ?_
  refine wp_ret ?_
  exact res_all (vs := [.int .i64 (c + 1)]) rfl aF ⟨res_of_tmp aF rfl, trivial⟩ bh
def ref05_all.vc (f : Int) (j : Str) (k : Str) (l : Sl) (d : Sl) (p : Bool) (q : Bool) (R : Value → World → Prop) (w : World) : Prop :=
∀ (r : World) (c : Nat), New w c r → Chg [] w r →
CallK Try.prog 71 #[.agg #[.int .i64 f, .string (Bs j), .string (Bs k), Sl.v l, Sl.v d], .bool p, .bool q] r [c] (fun v ai => ∃ (ad : Bool), v = .bool ad ∧
((ad = false) →
R (.bool false) ai) ∧
((ad = true) →
∃ (af : Int → World → Prop) (aj : Int → World → Nat),
af 0 ai ∧
(∀ (b : Int) (u : World), af b u →
((b < (d.n : Int)) →
∀ (m : World), Chg [] u m →
∃ ah : Addr, (((0 : Int) ≤ b ∧ b < (d.n : Int)) ∧ d.a = some ah) ∧
∃ (x : Int) (y : Str) (z : Str) (aa : Sl) (ab : Sl), (Cells m (ah.add (b.toNat * 5)) [.int .i64 x, .string (Bs y), .string (Bs z), Sl.v aa, Sl.v ab]) ∧
∃ (o : Bool), (∀ w' : World, Ext m w' → Calls Try.prog 51 #[.agg #[.int .i64 x, .string (Bs y), .string (Bs z), Sl.v aa, Sl.v ab], .bool false, .bool (decide (f = 1))] w' (Ret fun v w'' => Ext w' w'' ∧ v = .bool o)) ∧
((o = false) →
∀ (i : World), Chg [] m i →
R (.bool false) i) ∧
((o = true) →
(I64 (b + 1)) ∧
∀ (i : World), Chg [] m i →
af (b + 1) i ∧ aj (b + 1) i < aj b u)) ∧
((¬ (b < (d.n : Int))) →
R (.bool true) u))))
theorem ref05_all.ok (f : Int) (j : Str) (k : Str) (l : Sl) (d : Sl) (p : Bool) (q : Bool) {R : Value → World → Prop} {w : World} (ap : ref05_all.vc f j k l d p q R w) : Calls Try.prog 51 #[.agg #[.int .i64 f, .string (Bs j), .string (Bs k), Sl.v l, Sl.v d], .bool p, .bool q] w (Ret R) := by
 refine enter [.agg #[.int .i64 f, .string (Bs j), .string (Bs k), Sl.v l, Sl.v d], .bool p, .bool q] Try.func51 rfl Try.ntmps51 rfl ?_
 intro a0 aq
 unfold ref05_all.vc at ap
 refine wp_seq (wp_region_lit ?_)
 refine sq (opk_new (fun B => .pointer (some ⟨B, 0, none⟩)) aq rfl (r_box (cs := [.int .i64 f, .string (Bs j), .string (Bs k), Sl.v l, Sl.v d]) (aq.get rfl) rfl) fun a6 r c aS aT ar aU _ => ?_)
 have aV : New w c r := aT
 have aX : Chg [] w r := aS
 refine sqv aU rfl (r_assign rfl) fun _ aY => sq_end ?_
 have au := aY.kp [(1, .bool p), (2, .bool q), (3, pB c 0)] rfl
 refine then_normal (wp_seq (wp_seq (wp_region_lit ?_)))
 refine sqv au rfl (r_loadN (cs := [.int .i64 f, .string (Bs j), .string (Bs k), Sl.v l, Sl.v d]) Try.underlying26 rfl ti_26 (au.get rfl) (ar.part 0 _ rfl)) fun _ av => sqv av rfl (r_move (av.get rfl)) fun _ ax => sqv ax rfl (r_move (ax.get rfl)) fun _ ak => ?_
 have aZ := ap r c aV  aX
 refine sq (opk_call ak rfl (r_call (args := #[.agg #[.int .i64 f, .string (Bs j), .string (Bs k), Sl.v l, Sl.v d], .bool p, .bool q]) Try.func71 (by decide) rfl (map_arr (ml_cons (ak.get rfl) (ml_cons (ak.get rfl) (ml_cons (ak.get rfl) ml_nil)))) rfl) aZ fun bK bL ai ay _ hn22 bM a1 => ?_)
 obtain ⟨ad, rfl, az⟩ := a1
 have a2 := ar.kept hn22 (.head _)
 refine sqv ay rfl (r_not (ay.get rfl)) fun _ a3 => sq_end ?_
 have am := a3.kp [(3, pB c 0), (12, .bool (!ad))] rfl
 refine then_normal ?_
 refine wp_cond_split (am.get rfl) (fun hc => ?_) (fun hc => ?_)
 ·have a4 := az.1 (b_not_t hc)
  clear hc
  refine wp_seq (wp_region_lit ?_)
  refine sqv am rfl (r_assign rfl) fun _ a5 => sq_end ?_
  have aA := a5.kp [(6, .bool false)] rfl
  refine then_normal ?_
  refine wp_ret ?_
  refine then_ret ?_
  exact res_all (vs := [.bool false]) rfl aA ⟨res_of_tmp aA rfl, trivial⟩ a4
 ·have ht30 := az.2 (b_not_f hc)
  clear hc
  refine wp_skip ?_
  refine then_normal (wp_seq (wp_seq (wp_region_lit ?_)))
  refine sqv am rfl (r_assign rfl) fun _ a7 => sq_end ?_
  have a8 := a7.kp [(3, pB c 0), (7, .int .i64 0)] rfl
  refine then_normal (wp_block ?_)
  obtain ⟨af, aj, a9, ba⟩ := ht30
  refine wp_loop_st (σ := Int × World) (fun s a w => Ag 30 a [(3, pB c 0), (7, .int .i64 s.1)] ∧ Box w c 26 [.int .i64 f, .string (Bs j), .string (Bs k), Sl.v l, Sl.v d] ∧ w = s.2 ∧ af s.1 s.2) (fun s => aj s.1 s.2) (0, ai) ⟨a8.kp [(3, pB c 0), (7, .int .i64 0)] rfl, a2, rfl, a9⟩ ?_
  rintro ⟨b, u⟩ bN w_ ⟨aB, aC, hw_, bb⟩
  have hw_ : u = w_ := hw_.symm
  subst hw_
  have aD := ba b _ bb
  refine wp_seq (wp_seq (wp_region_lit ?_))
  refine sqv aB rfl (r_move (aB.get rfl)) fun _ aF => sqv aF rfl (r_fieldAddr (aF.get rfl) Try.underlying26 rfl ti_24 (by decide)) fun _ aG => sqv aG rfl (r_load1 tU24 rfl (aG.get rfl) (aC.cell 4 _ rfl)) fun _ aH => sqv aH rfl (r_len (aH.get rfl) tU24) fun _ an => sqv an rfl (r_lss (an.get rfl) (an.get rfl)) fun _ bd => sq_end ?_
  have g := bd.kp [(3, pB c 0), (7, .int .i64 b), (17, .bool (decide (b < (d.n : Int))))] rfl
  refine then_normal ?_
  refine wp_cond_split (g.get rfl) (fun hc => ?_) (fun hc => ?_)
  ·have bf := aD.1 (of_decide_eq_true hc)
   clear hc
   refine wp_skip ?_
   refine then_normal (wp_seq (wp_block (wp_seq ?_)))
   refine draw' (by kernel_rfl) fun m aI => ?_
   have ao := aC.ext aI
   have bg : Chg [] u m := aI
   have bh := bf m    bg
   obtain ⟨ah, aJ, bi⟩ := bh
   obtain ⟨x, y, z, aa, ab, bj, bk⟩ := bi
   obtain ⟨o, bl, aK⟩ := bk
   refine par (D := [[], [0], [], [0, 1, 2], [0, 1, 2, 3], [], [5], [5, 6], [0, 1, 2, 3, 4, 5, 6, 7], [0, 1, 2, 3, 4, 5, 6, 7, 8]]) (S := [0, 1, 2, 3, 4, 5, 6, 7, 8, 9]) (F := []) (V := VL [(0, fun v _ => v = pB c 4), (1, fun v _ => v = Sl.v d), (2, fun v _ => v = .int .i64 b), (3, fun v _ => v = .pointer (some (ah.add (b.toNat * 5)))), (4, fun v _ => v = .agg #[.int .i64 x, .string (Bs y), .string (Bs z), Sl.v aa, Sl.v ab]), (5, fun v _ => v = pB c 0), (6, fun v _ => v = .int .i64 f), (7, fun v _ => v = .bool (decide (f = 1))), (8, fun v _ => v = .bool o), (9, fun v _ => v = .bool (!o))]) g (by kernel_rfl) ⟨fun _ _ _ _ h => h, fun _ _ _ _ h => h, fun _ _ _ _ h => h, fun _ _ _ _ h => h, fun _ _ _ _ h => h, fun _ _ _ _ h => h, fun _ _ _ _ h => h, fun _ _ _ _ h => h, fun _ _ _ _ h => h, fun _ _ _ _ h => h, trivial⟩ ⟨?_, ?_, ?_, ?_, ?_, ?_, ?_, ?_, ?_, ?_, trivial⟩ ?_
   ·intro a w hT
    have hAp := hT.ag g [(3, pB c 0)] ⟨rfl, trivial⟩ (by kernel_rfl)
    exact ovr hAp rfl (r_fieldAddr (hAp.get rfl) Try.underlying26 rfl ti_24 (by decide)) fun _ => Eq.refl _
   ·intro a w hT
    have hAp := hT.ag g [] trivial (by kernel_rfl)
    have hAp := hAp.add (t := 20) (v := pB c 4) (hT.vals 0 rfl 20 rfl)
    exact ovr hAp rfl (r_load1 tU24 rfl (hAp.get rfl) ((ao.ext hT.chg).cell 4 _ rfl)) fun _ => Eq.refl _
   ·intro a w hT
    have hAp := hT.ag g [(7, .int .i64 b)] ⟨rfl, trivial⟩ (by kernel_rfl)
    exact ovr hAp rfl (r_move (hAp.get rfl)) fun _ => Eq.refl _
   ·intro a w hT
    have hAp := hT.ag g [] trivial (by kernel_rfl)
    have hAp := hAp.add (t := 21) (v := Sl.v d) (hT.vals 1 rfl 21 rfl)
    have hAp := hAp.add (t := 22) (v := .int .i64 b) (hT.vals 2 rfl 22 rfl)
    exact ovr hAp rfl (r_indexAddr (hAp.get rfl) (hAp.get rfl) tU24 ti_26 aJ.1 aJ.2) fun _ => Eq.refl _
   ·intro a w hT
    have hAp := hT.ag g [] trivial (by kernel_rfl)
    have hAp := hAp.add (t := 23) (v := .pointer (some (ah.add (b.toNat * 5)))) (hT.vals 3 rfl 23 rfl)
    exact ovr hAp rfl (r_loadN Try.underlying26 rfl ti_26 (hAp.get rfl) (bj.ext hT.chg)) fun _ => Eq.refl _
   ·intro a w hT
    have hAp := hT.ag g [(3, pB c 0)] ⟨rfl, trivial⟩ (by kernel_rfl)
    exact ovr hAp rfl (r_fieldAddr (hAp.get rfl) Try.underlying26 rfl ti_3 (by decide)) fun _ => Eq.refl _
   ·intro a w hT
    have hAp := hT.ag g [] trivial (by kernel_rfl)
    have hAp := hAp.add (t := 25) (v := pB c 0) (hT.vals 5 rfl 25 rfl)
    exact ovr hAp rfl (r_load1 tU3 rfl (hAp.get rfl) ((ao.ext hT.chg).cell 0 _ rfl)) fun _ => Eq.refl _
   ·intro a w hT
    have hAp := hT.ag g [] trivial (by kernel_rfl)
    have hAp := hAp.add (t := 26) (v := .int .i64 f) (hT.vals 6 rfl 26 rfl)
    exact ovr hAp rfl (r_eql (hAp.get rfl) rfl) fun _ => Eq.refl _
   ·intro a w hT
    have hAp := hT.ag g [] trivial (by kernel_rfl)
    have hAp := hAp.add (t := 24) (v := .agg #[.int .i64 x, .string (Bs y), .string (Bs z), Sl.v aa, Sl.v ab]) (hT.vals 4 rfl 24 rfl)
    have hAp := hAp.add (t := 27) (v := .bool (decide (f = 1))) (hT.vals 7 rfl 27 rfl)
    exact opk_callX hAp rfl (r_call (args := #[.agg #[.int .i64 x, .string (Bs y), .string (Bs z), Sl.v aa, Sl.v ab], .bool false, .bool (decide (f = 1))]) Try.func51 (by decide) rfl (map_arr (ml_cons (hAp.get rfl) (ml_cons rfl (ml_cons (hAp.get rfl) ml_nil)))) rfl) (bl w hT.chg) fun _ _ _ _ e hR => ⟨_, e, hR.1, fun _ => hR.2⟩
   ·intro a w hT
    have hAp := hT.ag g [] trivial (by kernel_rfl)
    have hAp := hAp.add (t := 28) (v := .bool o) (hT.vals 8 rfl 28 rfl)
    exact ovr hAp rfl (r_not (hAp.get rfl)) fun _ => Eq.refl _
   ·intro bm i aL bn bo
    have bp := bn [(3, pB c 0), (7, .int .i64 b)] ⟨rfl, rfl, trivial⟩ (by kernel_rfl)
    have bq : bm.tmps.getD 29 undef = .bool (!o) := bo 9 rfl 29 rfl
    have br := bp.add bq
    have bs := ao.ext aL
    have aM : Chg [] m i := aL
    refine PR_end (by kernel_rfl) ?_
    have al := br.kp [(3, pB c 0), (7, .int .i64 b), (29, .bool (!o))] rfl
    refine then_normal ?_
    refine wp_cond_split (al.get rfl) (fun hc => ?_) (fun hc => ?_)
    ·have bt := aK.1 (b_not_t hc)
     clear hc
     refine wp_seq (wp_region_lit ?_)
     refine sqv al rfl (r_assign rfl) fun _ bu => sq_end ?_
     have aN := bu.kp [(6, .bool false)] rfl
     refine then_normal ?_
     refine wp_ret ?_
     refine block_ret ?_
     refine then_ret ?_
     refine then_ret ?_
     refine block_ret ?_
     refine then_ret ?_
     have bv := bt i    aM
     exact res_all (vs := [.bool false]) rfl aN ⟨res_of_tmp aN rfl, trivial⟩ bv
    ·have bx := aK.2 (b_not_f hc)
     clear hc
     refine wp_skip ?_
     refine block_normal ?_
     refine then_normal (wp_region_lit ?_)
     refine sqv al rfl (r_move (al.get rfl)) fun _ aO => ?_
     obtain ⟨bz, bA⟩ := bx
     refine sqv aO rfl (r_addI (aO.get rfl) rfl bz) fun _ aP => sqv aP rfl (r_assign (aP.get rfl)) fun _ bB => sq_end ?_
     have bC := bB.kp [(3, pB c 0), (7, .int .i64 (b + 1))] rfl
     have aQ := bA i    aM
     have bD := bC.kp [(3, pB c 0), (7, .int .i64 (b + 1))] rfl
     exact then_normal ⟨(b + 1, i), ⟨bD, bs, rfl, aQ.1⟩, aQ.2⟩
  ·have bF := aD.2 (of_decide_eq_false hc)
   clear hc
   refine wp_exit ?_
   refine then_exit ?_
   refine then_exit ?_
   refine block_hit ?_
   have bG := g.kp [] rfl
   refine then_normal (wp_seq (wp_region_lit ?_))
   refine sqv bG rfl (r_assign rfl) fun _ bH => sq_end ?_
   have aR := bH.kp [(6, .bool true)] rfl
   refine then_normal ?_
   refine wp_ret ?_
   exact res_all (vs := [.bool true]) rfl aR ⟨res_of_tmp aR rfl, trivial⟩ bF
def ref05_May.vc (j : Int) (a : Str) (c : Str) (b : Sl) (h : Sl) (k : Bool) (d : Bool) (R : Value → World → Prop) (w : World) : Prop :=
((j = 1) →
∀ (f : World) (i : Nat), New w i f → Chg [] w f →
R (.bool (((k && (decide (a = ([] : Str)))) && (decide (c = ([] : Str)))) && (decide ((b.n : Int) = 0)))) f) ∧
((¬ (j = 1)) →
((j = 2) →
∀ (f : World) (i : Nat), New w i f → Chg [] w f →
CallK Try.prog 82 #[.string (Bs a)] f [i] (fun v q => ∃ (m : Bool), v = .bool m ∧
∃ (r : Bool), ((((m = true) ∧ (c = ([] : Str)))) → Calls Try.prog 83 #[Sl.v b] q (Ret fun v w' => Ext q w' ∧ v = .bool r)) ∧
(∀ s : World, Ext q s →
R (.bool ((m && (decide (c = ([] : Str)))) && r)) s))) ∧
((¬ (j = 2)) →
((j = 3) →
∀ (f : World) (i : Nat), New w i f → Chg [] w f →
R (.bool (((((decide (a = ([] : Str))) && (decide ((b.n : Int) = 0))) && (decide ((h.n : Int) = 0))) && (decide (1 ≤ (c.length : Int)))) && (decide ((c.length : Int) ≤ 4096)))) f) ∧
((¬ (j = 3)) →
((j = 4) →
∀ (f : World) (i : Nat), New w i f → Chg [] w f →
R (.bool ((((decide (a = ([] : Str))) && (decide ((b.n : Int) = 0))) && (decide ((h.n : Int) = 0))) && (decide ((c.length : Int) ≤ 4096)))) f) ∧
((¬ (j = 4)) →
((j = 5) →
∀ (f : World) (i : Nat), New w i f → Chg [] w f →
R (.bool ((((d && (decide ((a.length : Int) ≤ 32))) && (decide (c = ([] : Str)))) && (decide ((b.n : Int) = 0))) && (decide ((h.n : Int) = 0)))) f) ∧
((¬ (j = 5)) →
∀ (f : World) (i : Nat), New w i f → Chg [] w f →
R (.bool false) f)))))
theorem ref05_May.ok (j : Int) (a : Str) (c : Str) (b : Sl) (h : Sl) (k : Bool) (d : Bool) {R : Value → World → Prop} {w : World} (aa : ref05_May.vc j a c b h k d R w) : Calls Try.prog 71 #[.agg #[.int .i64 j, .string (Bs a), .string (Bs c), Sl.v b, Sl.v h], .bool k, .bool d] w (Ret R) := by
 refine enter [.agg #[.int .i64 j, .string (Bs a), .string (Bs c), Sl.v b, Sl.v h], .bool k, .bool d] Try.func71 rfl Try.ntmps71 rfl ?_
 intro a0 ay
 unfold ref05_May.vc at aa
 refine wp_seq (wp_region_lit ?_)
 refine sq (opk_new (fun B => .pointer (some ⟨B, 0, none⟩)) ay rfl (r_box (cs := [.int .i64 j, .string (Bs a), .string (Bs c), Sl.v b, Sl.v h]) (ay.get rfl) rfl) fun a6 f i co cp l cq _ => ?_)
 have o : New w i f := cp
 have p : Chg [] w f := co
 refine sqv cq rfl (r_assign rfl) fun _ cr => sq_end ?_
 have az := cr.kp [(1, .bool k), (2, .bool d), (3, pB i 0)] rfl
 refine then_normal (wp_seq (wp_seq (wp_region_lit ?_)))
 refine sqv az rfl (r_fieldAddr (az.get rfl) Try.underlying26 rfl ti_3 (by decide)) fun _ aA => sqv aA rfl (r_load1 tU3 rfl (aA.get rfl) (l.cell 0 _ rfl)) fun _ ct => sq_end ?_
 have aB := ct.kp [(1, .bool k), (2, .bool d), (3, pB i 0), (8, .int .i64 j)] rfl
 refine then_normal (wp_block (wp_seq (wp_region_lit ?_)))
 refine sqv aB rfl (r_eql (aB.get rfl) rfl) fun _ aC => sqv aC rfl (r_assign (aC.get rfl)) fun _ cu => sq_end ?_
 have t := cu.kp [(1, .bool k), (2, .bool d), (3, pB i 0), (8, .int .i64 j), (9, .bool (decide (j = 1)))] rfl
 refine then_normal ?_
 refine wp_cond_split (t.get rfl) (fun hc => ?_) (fun hc => ?_)
 ·have cv := aa.1 (of_decide_eq_true hc)
  clear hc
  refine wp_seq (wp_region_lit ?_)
  refine sqv t rfl (r_move (t.get rfl)) fun _ aD => sqv aD rfl (r_move (aD.get rfl)) fun _ aF => ?_
  refine sq (opk_gval aF rfl rfl (g := true) (e := k) rfl (fun hg => r_fieldAddr (aF.get rfl) Try.underlying26 rfl ti_9 (by decide)) fun c3 aG _ => ?_)
  refine sq (opk_gval aG rfl rfl (g := true) (e := k) rfl (fun hg => r_load1 tU9 rfl (cv_get (aG.get rfl) hg) (l.cell 1 _ rfl)) fun c4 aH _ => ?_)
  refine sq (opk_gval aH rfl rfl (g := true) (e := k) rfl (fun hg => r_seql (cv_get (aH.get rfl) hg) rfl) fun c5 ab _ => ?_)
  refine sqv ab rfl (r_pick_and (g := (true && (k == true))) (ab.get rfl) (ab.get rfl) (fun he => g_mkt rfl he)) fun _ aI => sqv aI rfl (r_move (aI.get rfl)) fun _ aJ => ?_
  refine sq (opk_gval aJ rfl rfl (g := true) (e := (k && (decide (a = ([] : Str))))) rfl (fun hg => r_fieldAddr (aJ.get rfl) Try.underlying26 rfl ti_9 (by decide)) fun c6 aK _ => ?_)
  refine sq (opk_gval aK rfl rfl (g := true) (e := (k && (decide (a = ([] : Str))))) rfl (fun hg => r_load1 tU9 rfl (cv_get (aK.get rfl) hg) (l.cell 2 _ rfl)) fun c7 aL _ => ?_)
  refine sq (opk_gval aL rfl rfl (g := true) (e := (k && (decide (a = ([] : Str))))) rfl (fun hg => r_seql (cv_get (aL.get rfl) hg) rfl) fun c8 ad _ => ?_)
  refine sqv ad rfl (r_pick_and (g := (true && ((k && (decide (a = ([] : Str)))) == true))) (ad.get rfl) (ad.get rfl) (fun he => g_mkt rfl he)) fun _ aM => sqv aM rfl (r_move (aM.get rfl)) fun _ aN => ?_
  refine sq (opk_gval aN rfl rfl (g := true) (e := ((k && (decide (a = ([] : Str)))) && (decide (c = ([] : Str))))) rfl (fun hg => r_fieldAddr (aN.get rfl) Try.underlying26 rfl ti_23 (by decide)) fun c9 aO _ => ?_)
  refine sq (opk_gval aO rfl rfl (g := true) (e := ((k && (decide (a = ([] : Str)))) && (decide (c = ([] : Str))))) rfl (fun hg => r_load1 tU23 rfl (cv_get (aO.get rfl) hg) (l.cell 3 _ rfl)) fun da aP _ => ?_)
  refine sq (opk_gval aP rfl rfl (g := true) (e := ((k && (decide (a = ([] : Str)))) && (decide (c = ([] : Str))))) rfl (fun hg => r_len (cv_get (aP.get rfl) hg) tU23) fun db aQ _ => ?_)
  refine sq (opk_gval aQ rfl rfl (g := true) (e := ((k && (decide (a = ([] : Str)))) && (decide (c = ([] : Str))))) rfl (fun hg => r_eql (cv_get (aQ.get rfl) hg) rfl) fun dc af _ => ?_)
  refine sqv af rfl (r_pick_and (g := (true && (((k && (decide (a = ([] : Str)))) && (decide (c = ([] : Str)))) == true))) (af.get rfl) (af.get rfl) (fun he => g_mkt rfl he)) fun _ aR => sqv aR rfl (r_assign (aR.get rfl)) fun _ cx => sq_end ?_
  have aS := cx.kp [(6, .bool (((k && (decide (a = ([] : Str)))) && (decide (c = ([] : Str)))) && (decide ((b.n : Int) = 0))))] rfl
  refine then_normal ?_
  refine wp_ret ?_
  refine block_ret ?_
  refine then_ret ?_
  have cy := cv f i o  p
  exact res_all (vs := [.bool (((k && (decide (a = ([] : Str)))) && (decide (c = ([] : Str)))) && (decide ((b.n : Int) = 0)))]) rfl aS ⟨res_of_tmp aS rfl, trivial⟩ cy
 ·have aT := aa.2 (of_decide_eq_false hc)
  clear hc
  refine wp_seq (wp_region_lit ?_)
  refine sqv t rfl (r_eql (t.get rfl) rfl) fun _ aU => sqv aU rfl (r_assign (aU.get rfl)) fun _ cz => sq_end ?_
  have u := cz.kp [(2, .bool d), (3, pB i 0), (8, .int .i64 j), (28, .bool (decide (j = 2)))] rfl
  refine then_normal ?_
  refine wp_cond_split (u.get rfl) (fun hc => ?_) (fun hc => ?_)
  ·have cA := aT.1 (of_decide_eq_true hc)
   clear hc
   refine wp_seq (wp_region_lit ?_)
   refine sqv u rfl (r_fieldAddr (u.get rfl) Try.underlying26 rfl ti_9 (by decide)) fun _ aV => sqv aV rfl (r_load1 tU9 rfl (aV.get rfl) (l.cell 1 _ rfl)) fun _ aX => ?_
   have cB := cA f i o  p
   refine sq (opk_call aX rfl (r_call (args := #[.string (Bs a)]) Try.func82 (by decide) rfl (map_arr (ml_cons (aX.get rfl) ml_nil)) rfl) cB fun dd df q aY _ cC dg cD => ?_)
   obtain ⟨m, rfl, cF⟩ := cD
   have ag := l.kept cC (.head _)
   refine sqv aY rfl (r_move (aY.get rfl)) fun _ aZ => ?_
   refine sq (opk_gval aZ rfl rfl (g := true) (e := m) rfl (fun hg => r_fieldAddr (aZ.get rfl) Try.underlying26 rfl ti_9 (by decide)) fun dh hA60 _ => ?_)
   refine sq (opk_gval hA60 rfl rfl (g := true) (e := m) rfl (fun hg => r_load1 tU9 rfl (cv_get (hA60.get rfl) hg) (ag.cell 2 _ rfl)) fun di a1 _ => ?_)
   refine sq (opk_gval a1 rfl rfl (g := true) (e := m) rfl (fun hg => r_seql (cv_get (a1.get rfl) hg) rfl) fun dj ah _ => ?_)
   refine sqv ah rfl (r_pick_and (g := (true && (m == true))) (ah.get rfl) (ah.get rfl) (fun he => g_mkt rfl he)) fun _ a2 => sqv a2 rfl (r_move (a2.get rfl)) fun _ a3 => ?_
   refine sq (opk_gval a3 rfl rfl (g := true) (e := (m && (decide (c = ([] : Str))))) rfl (fun hg => r_fieldAddr (a3.get rfl) Try.underlying26 rfl ti_23 (by decide)) fun dk a4 _ => ?_)
   refine sq (opk_gval a4 rfl rfl (g := true) (e := (m && (decide (c = ([] : Str))))) rfl (fun hg => r_load1 tU23 rfl (cv_get (a4.get rfl) hg) (ag.cell 3 _ rfl)) fun dl a5 _ => ?_)
   obtain ⟨r, cG, cH⟩ := cF
   refine sq (opk_gcall a5 rfl rfl (g := true) (e := (m && (decide (c = ([] : Str))))) rfl (fun hg => r_call (args := #[Sl.v b]) Try.func83 (by decide) rfl (map_arr (ml_cons (cv_get (a5.get rfl) hg) ml_nil)) rfl) (fun hg => cG ⟨(b_and_t (g_t hg)).1, (of_decide_eq_true (b_and_t (g_t hg)).2)⟩) fun dm s ai _ aj => ?_)
   have dn := ag.ext aj
   have dp : Chg [] q s := aj
   have cI := cH s aj
   refine sqv ai rfl (r_pick_and (g := (true && ((m && (decide (c = ([] : Str)))) == true))) (ai.get rfl) (ai.get rfl) (fun he => g_mkt rfl he)) fun _ hA76 => sqv hA76 rfl (r_assign (hA76.get rfl)) fun _ cJ => sq_end ?_
   have a7 := cJ.kp [(6, .bool ((m && (decide (c = ([] : Str)))) && r))] rfl
   refine then_normal ?_
   refine wp_ret ?_
   refine block_ret ?_
   refine then_ret ?_
   exact res_all (vs := [.bool ((m && (decide (c = ([] : Str)))) && r)]) rfl a7 ⟨res_of_tmp a7 rfl, trivial⟩ cI
  ·have a8 := aT.2 (of_decide_eq_false hc)
   clear hc
   refine wp_seq (wp_region_lit ?_)
   refine sqv u rfl (r_eql (u.get rfl) rfl) fun _ a9 => sqv a9 rfl (r_assign (a9.get rfl)) fun _ cK => sq_end ?_
   have x := cK.kp [(2, .bool d), (3, pB i 0), (8, .int .i64 j), (43, .bool (decide (j = 3)))] rfl
   refine then_normal ?_
   refine wp_cond_split (x.get rfl) (fun hc => ?_) (fun hc => ?_)
   ·have cL := a8.1 (of_decide_eq_true hc)
    clear hc
    refine wp_seq (wp_region_lit ?_)
    refine sqv x rfl (r_fieldAddr (x.get rfl) Try.underlying26 rfl ti_9 (by decide)) fun _ ba => sqv ba rfl (r_load1 tU9 rfl (ba.get rfl) (l.cell 1 _ rfl)) fun _ bb => sqv bb rfl (r_seql (bb.get rfl) rfl) fun _ bd => sqv bd rfl (r_move (bd.get rfl)) fun _ bf => ?_
    refine sq (opk_gval bf rfl rfl (g := true) (e := (decide (a = ([] : Str)))) rfl (fun hg => r_fieldAddr (bf.get rfl) Try.underlying26 rfl ti_23 (by decide)) fun dq bg _ => ?_)
    refine sq (opk_gval bg rfl rfl (g := true) (e := (decide (a = ([] : Str)))) rfl (fun hg => r_load1 tU23 rfl (cv_get (bg.get rfl) hg) (l.cell 3 _ rfl)) fun dr bh _ => ?_)
    refine sq (opk_gval bh rfl rfl (g := true) (e := (decide (a = ([] : Str)))) rfl (fun hg => r_len (cv_get (bh.get rfl) hg) tU23) fun ds bi _ => ?_)
    refine sq (opk_gval bi rfl rfl (g := true) (e := (decide (a = ([] : Str)))) rfl (fun hg => r_eql (cv_get (bi.get rfl) hg) rfl) fun dt ak _ => ?_)
    refine sqv ak rfl (r_pick_and (g := (true && ((decide (a = ([] : Str))) == true))) (ak.get rfl) (ak.get rfl) (fun he => g_mkt rfl he)) fun _ bj => sqv bj rfl (r_move (bj.get rfl)) fun _ bk => ?_
    refine sq (opk_gval bk rfl rfl (g := true) (e := ((decide (a = ([] : Str))) && (decide ((b.n : Int) = 0)))) rfl (fun hg => r_fieldAddr (bk.get rfl) Try.underlying26 rfl ti_24 (by decide)) fun du bl _ => ?_)
    refine sq (opk_gval bl rfl rfl (g := true) (e := ((decide (a = ([] : Str))) && (decide ((b.n : Int) = 0)))) rfl (fun hg => r_load1 tU24 rfl (cv_get (bl.get rfl) hg) (l.cell 4 _ rfl)) fun dv bm _ => ?_)
    refine sq (opk_gval bm rfl rfl (g := true) (e := ((decide (a = ([] : Str))) && (decide ((b.n : Int) = 0)))) rfl (fun hg => r_len (cv_get (bm.get rfl) hg) tU24) fun dx bn _ => ?_)
    refine sq (opk_gval bn rfl rfl (g := true) (e := ((decide (a = ([] : Str))) && (decide ((b.n : Int) = 0)))) rfl (fun hg => r_eql (cv_get (bn.get rfl) hg) rfl) fun dy al _ => ?_)
    refine sqv al rfl (r_pick_and (g := (true && (((decide (a = ([] : Str))) && (decide ((b.n : Int) = 0))) == true))) (al.get rfl) (al.get rfl) (fun he => g_mkt rfl he)) fun _ bo => sqv bo rfl (r_move (bo.get rfl)) fun _ bp => ?_
    refine sq (opk_gval bp rfl rfl (g := true) (e := (((decide (a = ([] : Str))) && (decide ((b.n : Int) = 0))) && (decide ((h.n : Int) = 0)))) rfl (fun hg => r_fieldAddr (bp.get rfl) Try.underlying26 rfl ti_9 (by decide)) fun dz bq _ => ?_)
    refine sq (opk_gval bq rfl rfl (g := true) (e := (((decide (a = ([] : Str))) && (decide ((b.n : Int) = 0))) && (decide ((h.n : Int) = 0)))) rfl (fun hg => r_load1 tU9 rfl (cv_get (bq.get rfl) hg) (l.cell 2 _ rfl)) fun dA br _ => ?_)
    refine sq (opk_gval br rfl rfl (g := true) (e := (((decide (a = ([] : Str))) && (decide ((b.n : Int) = 0))) && (decide ((h.n : Int) = 0)))) rfl (fun hg => r_slen (cv_get (br.get rfl) hg) tU9) fun dB bs _ => ?_)
    refine sq (opk_gval bs rfl rfl (g := true) (e := (((decide (a = ([] : Str))) && (decide ((b.n : Int) = 0))) && (decide ((h.n : Int) = 0)))) rfl (fun hg => r_geq (cv_get (bs.get rfl) hg) rfl) fun dC am _ => ?_)
    refine sqv am rfl (r_pick_and (g := (true && ((((decide (a = ([] : Str))) && (decide ((b.n : Int) = 0))) && (decide ((h.n : Int) = 0))) == true))) (am.get rfl) (am.get rfl) (fun he => g_mkt rfl he)) fun _ bt => sqv bt rfl (r_move (bt.get rfl)) fun _ bu => ?_
    refine sq (opk_gval bu rfl rfl (g := true) (e := ((((decide (a = ([] : Str))) && (decide ((b.n : Int) = 0))) && (decide ((h.n : Int) = 0))) && (decide (1 ≤ (c.length : Int))))) rfl (fun hg => r_fieldAddr (bu.get rfl) Try.underlying26 rfl ti_9 (by decide)) fun dD bv _ => ?_)
    refine sq (opk_gval bv rfl rfl (g := true) (e := ((((decide (a = ([] : Str))) && (decide ((b.n : Int) = 0))) && (decide ((h.n : Int) = 0))) && (decide (1 ≤ (c.length : Int))))) rfl (fun hg => r_load1 tU9 rfl (cv_get (bv.get rfl) hg) (l.cell 2 _ rfl)) fun dF bx _ => ?_)
    refine sq (opk_gval bx rfl rfl (g := true) (e := ((((decide (a = ([] : Str))) && (decide ((b.n : Int) = 0))) && (decide ((h.n : Int) = 0))) && (decide (1 ≤ (c.length : Int))))) rfl (fun hg => r_slen (cv_get (bx.get rfl) hg) tU9) fun dG bz _ => ?_)
    refine sq (opk_gval bz rfl rfl (g := true) (e := ((((decide (a = ([] : Str))) && (decide ((b.n : Int) = 0))) && (decide ((h.n : Int) = 0))) && (decide (1 ≤ (c.length : Int))))) rfl (fun hg => r_leq (cv_get (bz.get rfl) hg) rfl) fun dH an _ => ?_)
    refine sqv an rfl (r_pick_and (g := (true && (((((decide (a = ([] : Str))) && (decide ((b.n : Int) = 0))) && (decide ((h.n : Int) = 0))) && (decide (1 ≤ (c.length : Int)))) == true))) (an.get rfl) (an.get rfl) (fun he => g_mkt rfl he)) fun _ bA => sqv bA rfl (r_assign (bA.get rfl)) fun _ cM => sq_end ?_
    have bB := cM.kp [(6, .bool (((((decide (a = ([] : Str))) && (decide ((b.n : Int) = 0))) && (decide ((h.n : Int) = 0))) && (decide (1 ≤ (c.length : Int)))) && (decide ((c.length : Int) ≤ 4096))))] rfl
    refine then_normal ?_
    refine wp_ret ?_
    refine block_ret ?_
    refine then_ret ?_
    have cN := cL f i o  p
    exact res_all (vs := [.bool (((((decide (a = ([] : Str))) && (decide ((b.n : Int) = 0))) && (decide ((h.n : Int) = 0))) && (decide (1 ≤ (c.length : Int)))) && (decide ((c.length : Int) ≤ 4096)))]) rfl bB ⟨res_of_tmp bB rfl, trivial⟩ cN
   ·have bC := a8.2 (of_decide_eq_false hc)
    clear hc
    refine wp_seq (wp_region_lit ?_)
    refine sqv x rfl (r_eql (x.get rfl) rfl) fun _ bD => sqv bD rfl (r_assign (bD.get rfl)) fun _ cO => sq_end ?_
    have y := cO.kp [(2, .bool d), (3, pB i 0), (8, .int .i64 j), (72, .bool (decide (j = 4)))] rfl
    refine then_normal ?_
    refine wp_cond_split (y.get rfl) (fun hc => ?_) (fun hc => ?_)
    ·have cP := bC.1 (of_decide_eq_true hc)
     clear hc
     refine wp_seq (wp_region_lit ?_)
     refine sqv y rfl (r_fieldAddr (y.get rfl) Try.underlying26 rfl ti_9 (by decide)) fun _ bF => sqv bF rfl (r_load1 tU9 rfl (bF.get rfl) (l.cell 1 _ rfl)) fun _ bG => sqv bG rfl (r_seql (bG.get rfl) rfl) fun _ bH => sqv bH rfl (r_move (bH.get rfl)) fun _ bI => ?_
     refine sq (opk_gval bI rfl rfl (g := true) (e := (decide (a = ([] : Str)))) rfl (fun hg => r_fieldAddr (bI.get rfl) Try.underlying26 rfl ti_23 (by decide)) fun dI bJ _ => ?_)
     refine sq (opk_gval bJ rfl rfl (g := true) (e := (decide (a = ([] : Str)))) rfl (fun hg => r_load1 tU23 rfl (cv_get (bJ.get rfl) hg) (l.cell 3 _ rfl)) fun dJ bK _ => ?_)
     refine sq (opk_gval bK rfl rfl (g := true) (e := (decide (a = ([] : Str)))) rfl (fun hg => r_len (cv_get (bK.get rfl) hg) tU23) fun dK bL _ => ?_)
     refine sq (opk_gval bL rfl rfl (g := true) (e := (decide (a = ([] : Str)))) rfl (fun hg => r_eql (cv_get (bL.get rfl) hg) rfl) fun dL ao _ => ?_)
     refine sqv ao rfl (r_pick_and (g := (true && ((decide (a = ([] : Str))) == true))) (ao.get rfl) (ao.get rfl) (fun he => g_mkt rfl he)) fun _ bM => sqv bM rfl (r_move (bM.get rfl)) fun _ bN => ?_
     refine sq (opk_gval bN rfl rfl (g := true) (e := ((decide (a = ([] : Str))) && (decide ((b.n : Int) = 0)))) rfl (fun hg => r_fieldAddr (bN.get rfl) Try.underlying26 rfl ti_24 (by decide)) fun dM bO _ => ?_)
     refine sq (opk_gval bO rfl rfl (g := true) (e := ((decide (a = ([] : Str))) && (decide ((b.n : Int) = 0)))) rfl (fun hg => r_load1 tU24 rfl (cv_get (bO.get rfl) hg) (l.cell 4 _ rfl)) fun dN bP _ => ?_)
     refine sq (opk_gval bP rfl rfl (g := true) (e := ((decide (a = ([] : Str))) && (decide ((b.n : Int) = 0)))) rfl (fun hg => r_len (cv_get (bP.get rfl) hg) tU24) fun dO bQ _ => ?_)
     refine sq (opk_gval bQ rfl rfl (g := true) (e := ((decide (a = ([] : Str))) && (decide ((b.n : Int) = 0)))) rfl (fun hg => r_eql (cv_get (bQ.get rfl) hg) rfl) fun dP ap _ => ?_)
     refine sqv ap rfl (r_pick_and (g := (true && (((decide (a = ([] : Str))) && (decide ((b.n : Int) = 0))) == true))) (ap.get rfl) (ap.get rfl) (fun he => g_mkt rfl he)) fun _ bR => sqv bR rfl (r_move (bR.get rfl)) fun _ bS => ?_
     refine sq (opk_gval bS rfl rfl (g := true) (e := (((decide (a = ([] : Str))) && (decide ((b.n : Int) = 0))) && (decide ((h.n : Int) = 0)))) rfl (fun hg => r_fieldAddr (bS.get rfl) Try.underlying26 rfl ti_9 (by decide)) fun dQ bT _ => ?_)
     refine sq (opk_gval bT rfl rfl (g := true) (e := (((decide (a = ([] : Str))) && (decide ((b.n : Int) = 0))) && (decide ((h.n : Int) = 0)))) rfl (fun hg => r_load1 tU9 rfl (cv_get (bT.get rfl) hg) (l.cell 2 _ rfl)) fun dR bU _ => ?_)
     refine sq (opk_gval bU rfl rfl (g := true) (e := (((decide (a = ([] : Str))) && (decide ((b.n : Int) = 0))) && (decide ((h.n : Int) = 0)))) rfl (fun hg => r_slen (cv_get (bU.get rfl) hg) tU9) fun dS bV _ => ?_)
     refine sq (opk_gval bV rfl rfl (g := true) (e := (((decide (a = ([] : Str))) && (decide ((b.n : Int) = 0))) && (decide ((h.n : Int) = 0)))) rfl (fun hg => r_leq (cv_get (bV.get rfl) hg) rfl) fun dT aq _ => ?_)
     refine sqv aq rfl (r_pick_and (g := (true && ((((decide (a = ([] : Str))) && (decide ((b.n : Int) = 0))) && (decide ((h.n : Int) = 0))) == true))) (aq.get rfl) (aq.get rfl) (fun he => g_mkt rfl he)) fun _ bX => sqv bX rfl (r_assign (bX.get rfl)) fun _ cQ => sq_end ?_
     have bY := cQ.kp [(6, .bool ((((decide (a = ([] : Str))) && (decide ((b.n : Int) = 0))) && (decide ((h.n : Int) = 0))) && (decide ((c.length : Int) ≤ 4096))))] rfl
     refine then_normal ?_
     refine wp_ret ?_
     refine block_ret ?_
     refine then_ret ?_
     have cR := cP f i o  p
     exact res_all (vs := [.bool ((((decide (a = ([] : Str))) && (decide ((b.n : Int) = 0))) && (decide ((h.n : Int) = 0))) && (decide ((c.length : Int) ≤ 4096)))]) rfl bY ⟨res_of_tmp bY rfl, trivial⟩ cR
    ·have bZ := bC.2 (of_decide_eq_false hc)
     clear hc
     refine wp_seq (wp_region_lit ?_)
     refine sqv y rfl (r_eql (y.get rfl) rfl) fun _ b0 => sqv b0 rfl (r_assign (b0.get rfl)) fun _ cS => sq_end ?_
     have z := cS.kp [(2, .bool d), (3, pB i 0), (95, .bool (decide (j = 5)))] rfl
     refine then_normal ?_
     refine wp_cond_split (z.get rfl) (fun hc => ?_) (fun hc => ?_)
     ·have cT := bZ.1 (of_decide_eq_true hc)
      clear hc
      refine wp_seq (wp_region_lit ?_)
      refine sqv z rfl (r_move (z.get rfl)) fun _ b1 => sqv b1 rfl (r_move (b1.get rfl)) fun _ b2 => ?_
      refine sq (opk_gval b2 rfl rfl (g := true) (e := d) rfl (fun hg => r_fieldAddr (b2.get rfl) Try.underlying26 rfl ti_9 (by decide)) fun dU b3 _ => ?_)
      refine sq (opk_gval b3 rfl rfl (g := true) (e := d) rfl (fun hg => r_load1 tU9 rfl (cv_get (b3.get rfl) hg) (l.cell 1 _ rfl)) fun dV b4 _ => ?_)
      refine sq (opk_gval b4 rfl rfl (g := true) (e := d) rfl (fun hg => r_slen (cv_get (b4.get rfl) hg) tU9) fun dX b5 _ => ?_)
      refine sq (opk_gval b5 rfl rfl (g := true) (e := d) rfl (fun hg => r_leq (cv_get (b5.get rfl) hg) rfl) fun dY ar _ => ?_)
      refine sqv ar rfl (r_pick_and (g := (true && (d == true))) (ar.get rfl) (ar.get rfl) (fun he => g_mkt rfl he)) fun _ b6 => sqv b6 rfl (r_move (b6.get rfl)) fun _ b7 => ?_
      refine sq (opk_gval b7 rfl rfl (g := true) (e := (d && (decide ((a.length : Int) ≤ 32)))) rfl (fun hg => r_fieldAddr (b7.get rfl) Try.underlying26 rfl ti_9 (by decide)) fun dZ b8 _ => ?_)
      refine sq (opk_gval b8 rfl rfl (g := true) (e := (d && (decide ((a.length : Int) ≤ 32)))) rfl (fun hg => r_load1 tU9 rfl (cv_get (b8.get rfl) hg) (l.cell 2 _ rfl)) fun d0 b9 _ => ?_)
      refine sq (opk_gval b9 rfl rfl (g := true) (e := (d && (decide ((a.length : Int) ≤ 32)))) rfl (fun hg => r_seql (cv_get (b9.get rfl) hg) rfl) fun d1 au _ => ?_)
      refine sqv au rfl (r_pick_and (g := (true && ((d && (decide ((a.length : Int) ≤ 32))) == true))) (au.get rfl) (au.get rfl) (fun he => g_mkt rfl he)) fun _ ca => sqv ca rfl (r_move (ca.get rfl)) fun _ cb => ?_
      refine sq (opk_gval cb rfl rfl (g := true) (e := ((d && (decide ((a.length : Int) ≤ 32))) && (decide (c = ([] : Str))))) rfl (fun hg => r_fieldAddr (cb.get rfl) Try.underlying26 rfl ti_23 (by decide)) fun d2 cc _ => ?_)
      refine sq (opk_gval cc rfl rfl (g := true) (e := ((d && (decide ((a.length : Int) ≤ 32))) && (decide (c = ([] : Str))))) rfl (fun hg => r_load1 tU23 rfl (cv_get (cc.get rfl) hg) (l.cell 3 _ rfl)) fun d3 cd _ => ?_)
      refine sq (opk_gval cd rfl rfl (g := true) (e := ((d && (decide ((a.length : Int) ≤ 32))) && (decide (c = ([] : Str))))) rfl (fun hg => r_len (cv_get (cd.get rfl) hg) tU23) fun d4 cf _ => ?_)
      refine sq (opk_gval cf rfl rfl (g := true) (e := ((d && (decide ((a.length : Int) ≤ 32))) && (decide (c = ([] : Str))))) rfl (fun hg => r_eql (cv_get (cf.get rfl) hg) rfl) fun d5 av _ => ?_)
      refine sqv av rfl (r_pick_and (g := (true && (((d && (decide ((a.length : Int) ≤ 32))) && (decide (c = ([] : Str)))) == true))) (av.get rfl) (av.get rfl) (fun he => g_mkt rfl he)) fun _ cg => sqv cg rfl (r_move (cg.get rfl)) fun _ ch => ?_
      refine sq (opk_gval ch rfl rfl (g := true) (e := (((d && (decide ((a.length : Int) ≤ 32))) && (decide (c = ([] : Str)))) && (decide ((b.n : Int) = 0)))) rfl (fun hg => r_fieldAddr (ch.get rfl) Try.underlying26 rfl ti_24 (by decide)) fun d6 ci _ => ?_)
      refine sq (opk_gval ci rfl rfl (g := true) (e := (((d && (decide ((a.length : Int) ≤ 32))) && (decide (c = ([] : Str)))) && (decide ((b.n : Int) = 0)))) rfl (fun hg => r_load1 tU24 rfl (cv_get (ci.get rfl) hg) (l.cell 4 _ rfl)) fun d7 cj _ => ?_)
      refine sq (opk_gval cj rfl rfl (g := true) (e := (((d && (decide ((a.length : Int) ≤ 32))) && (decide (c = ([] : Str)))) && (decide ((b.n : Int) = 0)))) rfl (fun hg => r_len (cv_get (cj.get rfl) hg) tU24) fun d8 ck _ => ?_)
      refine sq (opk_gval ck rfl rfl (g := true) (e := (((d && (decide ((a.length : Int) ≤ 32))) && (decide (c = ([] : Str)))) && (decide ((b.n : Int) = 0)))) rfl (fun hg => r_eql (cv_get (ck.get rfl) hg) rfl) fun d9 ax _ => ?_)
      refine sqv ax rfl (r_pick_and (g := (true && ((((d && (decide ((a.length : Int) ≤ 32))) && (decide (c = ([] : Str)))) && (decide ((b.n : Int) = 0))) == true))) (ax.get rfl) (ax.get rfl) (fun he => g_mkt rfl he)) fun _ cl => sqv cl rfl (r_assign (cl.get rfl)) fun _ cU => sq_end ?_
      have cm := cU.kp [(6, .bool ((((d && (decide ((a.length : Int) ≤ 32))) && (decide (c = ([] : Str)))) && (decide ((b.n : Int) = 0))) && (decide ((h.n : Int) = 0))))] rfl
      refine then_normal ?_
      refine wp_ret ?_
      refine block_ret ?_
      refine then_ret ?_
      have cX := cT f i o  p
      exact res_all (vs := [.bool ((((d && (decide ((a.length : Int) ≤ 32))) && (decide (c = ([] : Str)))) && (decide ((b.n : Int) = 0))) && (decide ((h.n : Int) = 0)))]) rfl cm ⟨res_of_tmp cm rfl, trivial⟩ cX
     ·have cY := bZ.2 (of_decide_eq_false hc)
      clear hc
      refine wp_skip ?_
      refine block_normal ?_
      refine then_normal (wp_seq (wp_region_lit ?_))
      refine sqv z rfl (r_assign rfl) fun _ cZ => sq_end ?_
      have cn := cZ.kp [(6, .bool false)] rfl
      refine then_normal ?_
      refine wp_ret ?_
      have c0 := cY f i o  p
      exact res_all (vs := [.bool false]) rfl cn ⟨res_of_tmp cn rfl, trivial⟩ c0
def ref05_Name.vc (b : Str) (R : Value → World → Prop) (w : World) : Prop :=
((((b.length : Int) < 1) ∨ (32 < (b.length : Int))) →
R (.bool false) w) ∧
(((¬ ((b.length : Int) < 1)) ∧ (¬ (32 < (b.length : Int)))) →
∃ (i : Int → World → Prop) (k : Int → World → Nat),
i 0 w ∧
(∀ (c : Int) (f : World), i c f →
((c < (b.length : Int)) →
((0 : Int) ≤ c ∧ c < (b.length : Int)) ∧
CallK Try.prog 90 #[.int .u8 ((b.getD c.toNat 0).toNat : Int)] f [] (fun v j => ∃ (d : Bool), v = .bool d ∧
((((((((((d = true) ∨ (((b.getD c.toNat 0).toNat : Int) = 0)) ∨ (((b.getD c.toNat 0).toNat : Int) = 34)) ∨ (((b.getD c.toNat 0).toNat : Int) = 39)) ∨ (((b.getD c.toNat 0).toNat : Int) = 62)) ∨ (((b.getD c.toNat 0).toNat : Int) = 47)) ∨ (((b.getD c.toNat 0).toNat : Int) = 61)) ∨ (((b.getD c.toNat 0).toNat : Int) = 60)) ∨ ((65 ≤ ((b.getD c.toNat 0).toNat : Int)) ∧ (((b.getD c.toNat 0).toNat : Int) ≤ 90))) →
R (.bool false) j) ∧
((((((((((d = false) ∧ (¬ (((b.getD c.toNat 0).toNat : Int) = 0))) ∧ (¬ (((b.getD c.toNat 0).toNat : Int) = 34))) ∧ (¬ (((b.getD c.toNat 0).toNat : Int) = 39))) ∧ (¬ (((b.getD c.toNat 0).toNat : Int) = 62))) ∧ (¬ (((b.getD c.toNat 0).toNat : Int) = 47))) ∧ (¬ (((b.getD c.toNat 0).toNat : Int) = 61))) ∧ (¬ (((b.getD c.toNat 0).toNat : Int) = 60))) ∧ ((¬ (65 ≤ ((b.getD c.toNat 0).toNat : Int))) ∨ (¬ (((b.getD c.toNat 0).toNat : Int) ≤ 90)))) →
(I64 (c + 1)) ∧
i (c + 1) j ∧ k (c + 1) j < k c f))) ∧
((¬ (c < (b.length : Int))) →
R (.bool true) f)))
theorem ref05_Name.ok (b : Str) {R : Value → World → Prop} {w : World} (n : ref05_Name.vc b R w) : Calls Try.prog 82 #[.string (Bs b)] w (Ret R) := by
 refine enter [.string (Bs b)] Try.func82 rfl Try.ntmps82 rfl ?_
 intro a0 hA0
 unfold ref05_Name.vc at n
 refine wp_seq (wp_region_lit ?_)
 refine sqv hA0 rfl (r_assign rfl) fun _ hA2 => sq_end ?_
 have ag := hA2.kp [(0, .string (Bs b))] rfl
 refine then_normal (wp_seq (wp_seq (wp_region_lit ?_)))
 refine sqv ag rfl (r_move (ag.get rfl)) fun _ ah => sqv ah rfl (r_slen (ah.get rfl) tU9) fun _ ai => sqv ai rfl (r_lss (ai.get rfl) rfl) fun _ aj => sqv aj rfl (r_move (aj.get rfl)) fun _ ak => ?_
 refine sq (opk_gval ak rfl rfl (g := true) (e := (decide ((b.length : Int) < 1))) rfl (fun hg => r_move (ak.get rfl)) fun a8 al _ => ?_)
 refine sq (opk_gval al rfl rfl (g := true) (e := (decide ((b.length : Int) < 1))) rfl (fun hg => r_slen (cv_get (al.get rfl) hg) tU9) fun a9 am _ => ?_)
 refine sq (opk_gval am rfl rfl (g := true) (e := (decide ((b.length : Int) < 1))) rfl (fun hg => r_gtr (cv_get (am.get rfl) hg) rfl) fun bI o _ => ?_)
 refine sqv o rfl (r_pick_or (g := (true && ((decide ((b.length : Int) < 1)) == false))) (o.get rfl) (o.get rfl) (fun he => g_mkf rfl he)) fun _ ba => sq_end ?_
 have p := ba.kp [(0, .string (Bs b)), (12, .bool ((decide ((b.length : Int) < 1)) || (decide (32 < (b.length : Int)))))] rfl
 refine then_normal ?_
 refine wp_cond_split (p.get rfl) (fun hc => ?_) (fun hc => ?_)
 ·have bb := n.1 ((b_or_t hc).imp (fun h => (of_decide_eq_true h)) (fun h => (of_decide_eq_true h)))
  clear hc
  refine wp_seq (wp_region_lit ?_)
  refine sqv p rfl (r_assign rfl) fun _ bd => sq_end ?_
  have an := bd.kp [(2, .bool false)] rfl
  refine then_normal ?_
  refine wp_ret ?_
  refine then_ret ?_
  exact res_all (vs := [.bool false]) rfl an ⟨res_of_tmp an rfl, trivial⟩ bb
 ·have bf := n.2 ⟨(of_decide_eq_false (b_or_f hc).1), (of_decide_eq_false (b_or_f hc).2)⟩
  clear hc
  refine wp_skip ?_
  refine then_normal (wp_seq (wp_seq (wp_region_lit ?_)))
  refine sqv p rfl (r_assign rfl) fun _ bg => sq_end ?_
  have bh := bg.kp [(0, .string (Bs b)), (3, .int .i64 0)] rfl
  refine then_normal (wp_block ?_)
  obtain ⟨i, k, bi, bj⟩ := bf
  refine wp_loop_st (σ := Int × World) (fun s a w => Ag 60 a [(0, .string (Bs b)), (3, .int .i64 s.1)] ∧ w = s.2 ∧ i s.1 s.2) (fun s => k s.1 s.2) (0, w) ⟨bh.kp [(0, .string (Bs b)), (3, .int .i64 0)] rfl, rfl, bi⟩ ?_
  rintro ⟨c, f⟩ bJ w_ ⟨ao, hw_, bk⟩
  have hw_ : f = w_ := hw_.symm
  subst hw_
  have ap := bj c _ bk
  refine wp_seq (wp_seq (wp_region_lit ?_))
  refine sqv ao rfl (r_move (ao.get rfl)) fun _ aq => sqv aq rfl (r_move (aq.get rfl)) fun _ ar => sqv ar rfl (r_slen (ar.get rfl) tU9) fun _ q => sqv q rfl (r_lss (q.get rfl) (q.get rfl)) fun _ bl => sq_end ?_
  have l := bl.kp [(0, .string (Bs b)), (3, .int .i64 c), (16, .bool (decide (c < (b.length : Int))))] rfl
  refine then_normal ?_
  refine wp_cond_split (l.get rfl) (fun hc => ?_) (fun hc => ?_)
  ·have bm := ap.1 (of_decide_eq_true hc)
   clear hc
   refine wp_skip ?_
   refine then_normal (wp_seq (wp_block (wp_seq (wp_region_lit ?_))))
   refine sqv l rfl (r_move (l.get rfl)) fun _ au => sqv au rfl (r_move (au.get rfl)) fun _ r => ?_
   obtain ⟨bn, bo⟩ := bm
   refine sqv r rfl (r_sindex (r.get rfl) (r.get rfl) tU9 bn) fun _ av => sqv av rfl (r_assign (av.get rfl)) fun _ bp => sq_end ?_
   have ax := bp.kp [(0, .string (Bs b)), (3, .int .i64 c), (4, .int .u8 ((b.getD c.toNat 0).toNat : Int))] rfl
   refine then_normal (wp_seq (wp_region_lit ?_))
   refine sqv ax rfl (r_move (ax.get rfl)) fun _ ay => ?_
   refine sq (opk_call ay rfl (r_call (args := #[.int .u8 ((b.getD c.toNat 0).toNat : Int)]) Try.func90 (by decide) rfl (map_arr (ml_cons (ay.get rfl) ml_nil)) rfl) bo fun bK bL j az _ bM bN bq => ?_)
   obtain ⟨d, rfl, aA⟩ := bq
   refine sqv az rfl (r_move (az.get rfl)) fun _ aB => ?_
   refine sq (opk_gval aB rfl rfl (g := true) (e := d) rfl (fun hg => r_move (aB.get rfl)) fun bO aC _ => ?_)
   refine sq (opk_gval aC rfl rfl (g := true) (e := d) rfl (fun hg => r_eql (cv_get (aC.get rfl) hg) rfl) fun bP t _ => ?_)
   refine sqv t rfl (r_pick_or (g := (true && (d == false))) (t.get rfl) (t.get rfl) (fun he => g_mkf rfl he)) fun _ aD => sqv aD rfl (r_move (aD.get rfl)) fun _ aF => ?_
   refine sq (opk_gval aF rfl rfl (g := true) (e := (d || (decide (((b.getD c.toNat 0).toNat : Int) = 0)))) rfl (fun hg => r_move (aF.get rfl)) fun bQ aG _ => ?_)
   refine sq (opk_gval aG rfl rfl (g := true) (e := (d || (decide (((b.getD c.toNat 0).toNat : Int) = 0)))) rfl (fun hg => r_eql (cv_get (aG.get rfl) hg) rfl) fun bR u _ => ?_)
   refine sqv u rfl (r_pick_or (g := (true && ((d || (decide (((b.getD c.toNat 0).toNat : Int) = 0))) == false))) (u.get rfl) (u.get rfl) (fun he => g_mkf rfl he)) fun _ aH => sqv aH rfl (r_move (aH.get rfl)) fun _ aI => ?_
   refine sq (opk_gval aI rfl rfl (g := true) (e := ((d || (decide (((b.getD c.toNat 0).toNat : Int) = 0))) || (decide (((b.getD c.toNat 0).toNat : Int) = 34)))) rfl (fun hg => r_move (aI.get rfl)) fun bS aJ _ => ?_)
   refine sq (opk_gval aJ rfl rfl (g := true) (e := ((d || (decide (((b.getD c.toNat 0).toNat : Int) = 0))) || (decide (((b.getD c.toNat 0).toNat : Int) = 34)))) rfl (fun hg => r_eql (cv_get (aJ.get rfl) hg) rfl) fun bT x _ => ?_)
   refine sqv x rfl (r_pick_or (g := (true && (((d || (decide (((b.getD c.toNat 0).toNat : Int) = 0))) || (decide (((b.getD c.toNat 0).toNat : Int) = 34))) == false))) (x.get rfl) (x.get rfl) (fun he => g_mkf rfl he)) fun _ aK => sqv aK rfl (r_move (aK.get rfl)) fun _ aL => ?_
   refine sq (opk_gval aL rfl rfl (g := true) (e := (((d || (decide (((b.getD c.toNat 0).toNat : Int) = 0))) || (decide (((b.getD c.toNat 0).toNat : Int) = 34))) || (decide (((b.getD c.toNat 0).toNat : Int) = 39)))) rfl (fun hg => r_move (aL.get rfl)) fun bU aM _ => ?_)
   refine sq (opk_gval aM rfl rfl (g := true) (e := (((d || (decide (((b.getD c.toNat 0).toNat : Int) = 0))) || (decide (((b.getD c.toNat 0).toNat : Int) = 34))) || (decide (((b.getD c.toNat 0).toNat : Int) = 39)))) rfl (fun hg => r_eql (cv_get (aM.get rfl) hg) rfl) fun bV y _ => ?_)
   refine sqv y rfl (r_pick_or (g := (true && ((((d || (decide (((b.getD c.toNat 0).toNat : Int) = 0))) || (decide (((b.getD c.toNat 0).toNat : Int) = 34))) || (decide (((b.getD c.toNat 0).toNat : Int) = 39))) == false))) (y.get rfl) (y.get rfl) (fun he => g_mkf rfl he)) fun _ aN => sqv aN rfl (r_move (aN.get rfl)) fun _ aO => ?_
   refine sq (opk_gval aO rfl rfl (g := true) (e := ((((d || (decide (((b.getD c.toNat 0).toNat : Int) = 0))) || (decide (((b.getD c.toNat 0).toNat : Int) = 34))) || (decide (((b.getD c.toNat 0).toNat : Int) = 39))) || (decide (((b.getD c.toNat 0).toNat : Int) = 62)))) rfl (fun hg => r_move (aO.get rfl)) fun bX aP _ => ?_)
   refine sq (opk_gval aP rfl rfl (g := true) (e := ((((d || (decide (((b.getD c.toNat 0).toNat : Int) = 0))) || (decide (((b.getD c.toNat 0).toNat : Int) = 34))) || (decide (((b.getD c.toNat 0).toNat : Int) = 39))) || (decide (((b.getD c.toNat 0).toNat : Int) = 62)))) rfl (fun hg => r_eql (cv_get (aP.get rfl) hg) rfl) fun bY z _ => ?_)
   refine sqv z rfl (r_pick_or (g := (true && (((((d || (decide (((b.getD c.toNat 0).toNat : Int) = 0))) || (decide (((b.getD c.toNat 0).toNat : Int) = 34))) || (decide (((b.getD c.toNat 0).toNat : Int) = 39))) || (decide (((b.getD c.toNat 0).toNat : Int) = 62))) == false))) (z.get rfl) (z.get rfl) (fun he => g_mkf rfl he)) fun _ aQ => sqv aQ rfl (r_move (aQ.get rfl)) fun _ aR => ?_
   refine sq (opk_gval aR rfl rfl (g := true) (e := (((((d || (decide (((b.getD c.toNat 0).toNat : Int) = 0))) || (decide (((b.getD c.toNat 0).toNat : Int) = 34))) || (decide (((b.getD c.toNat 0).toNat : Int) = 39))) || (decide (((b.getD c.toNat 0).toNat : Int) = 62))) || (decide (((b.getD c.toNat 0).toNat : Int) = 47)))) rfl (fun hg => r_move (aR.get rfl)) fun bZ aS _ => ?_)
   refine sq (opk_gval aS rfl rfl (g := true) (e := (((((d || (decide (((b.getD c.toNat 0).toNat : Int) = 0))) || (decide (((b.getD c.toNat 0).toNat : Int) = 34))) || (decide (((b.getD c.toNat 0).toNat : Int) = 39))) || (decide (((b.getD c.toNat 0).toNat : Int) = 62))) || (decide (((b.getD c.toNat 0).toNat : Int) = 47)))) rfl (fun hg => r_eql (cv_get (aS.get rfl) hg) rfl) fun b0 aa _ => ?_)
   refine sqv aa rfl (r_pick_or (g := (true && ((((((d || (decide (((b.getD c.toNat 0).toNat : Int) = 0))) || (decide (((b.getD c.toNat 0).toNat : Int) = 34))) || (decide (((b.getD c.toNat 0).toNat : Int) = 39))) || (decide (((b.getD c.toNat 0).toNat : Int) = 62))) || (decide (((b.getD c.toNat 0).toNat : Int) = 47))) == false))) (aa.get rfl) (aa.get rfl) (fun he => g_mkf rfl he)) fun _ aT => sqv aT rfl (r_move (aT.get rfl)) fun _ aU => ?_
   refine sq (opk_gval aU rfl rfl (g := true) (e := ((((((d || (decide (((b.getD c.toNat 0).toNat : Int) = 0))) || (decide (((b.getD c.toNat 0).toNat : Int) = 34))) || (decide (((b.getD c.toNat 0).toNat : Int) = 39))) || (decide (((b.getD c.toNat 0).toNat : Int) = 62))) || (decide (((b.getD c.toNat 0).toNat : Int) = 47))) || (decide (((b.getD c.toNat 0).toNat : Int) = 61)))) rfl (fun hg => r_move (aU.get rfl)) fun b1 aV _ => ?_)
   refine sq (opk_gval aV rfl rfl (g := true) (e := ((((((d || (decide (((b.getD c.toNat 0).toNat : Int) = 0))) || (decide (((b.getD c.toNat 0).toNat : Int) = 34))) || (decide (((b.getD c.toNat 0).toNat : Int) = 39))) || (decide (((b.getD c.toNat 0).toNat : Int) = 62))) || (decide (((b.getD c.toNat 0).toNat : Int) = 47))) || (decide (((b.getD c.toNat 0).toNat : Int) = 61)))) rfl (fun hg => r_eql (cv_get (aV.get rfl) hg) rfl) fun b2 ab _ => ?_)
   refine sqv ab rfl (r_pick_or (g := (true && (((((((d || (decide (((b.getD c.toNat 0).toNat : Int) = 0))) || (decide (((b.getD c.toNat 0).toNat : Int) = 34))) || (decide (((b.getD c.toNat 0).toNat : Int) = 39))) || (decide (((b.getD c.toNat 0).toNat : Int) = 62))) || (decide (((b.getD c.toNat 0).toNat : Int) = 47))) || (decide (((b.getD c.toNat 0).toNat : Int) = 61))) == false))) (ab.get rfl) (ab.get rfl) (fun he => g_mkf rfl he)) fun _ aX => sqv aX rfl (r_move (aX.get rfl)) fun _ aY => ?_
   refine sq (opk_gval aY rfl rfl (g := true) (e := (((((((d || (decide (((b.getD c.toNat 0).toNat : Int) = 0))) || (decide (((b.getD c.toNat 0).toNat : Int) = 34))) || (decide (((b.getD c.toNat 0).toNat : Int) = 39))) || (decide (((b.getD c.toNat 0).toNat : Int) = 62))) || (decide (((b.getD c.toNat 0).toNat : Int) = 47))) || (decide (((b.getD c.toNat 0).toNat : Int) = 61))) || (decide (((b.getD c.toNat 0).toNat : Int) = 60)))) rfl (fun hg => r_move (aY.get rfl)) fun b3 aZ _ => ?_)
   refine sq (opk_gval aZ rfl rfl (g := true) (e := (((((((d || (decide (((b.getD c.toNat 0).toNat : Int) = 0))) || (decide (((b.getD c.toNat 0).toNat : Int) = 34))) || (decide (((b.getD c.toNat 0).toNat : Int) = 39))) || (decide (((b.getD c.toNat 0).toNat : Int) = 62))) || (decide (((b.getD c.toNat 0).toNat : Int) = 47))) || (decide (((b.getD c.toNat 0).toNat : Int) = 61))) || (decide (((b.getD c.toNat 0).toNat : Int) = 60)))) rfl (fun hg => r_geq (cv_get (aZ.get rfl) hg) rfl) fun b4 hA152 _ => ?_)
   refine sq (opk_gval hA152 rfl rfl (g := true) (e := (((((((d || (decide (((b.getD c.toNat 0).toNat : Int) = 0))) || (decide (((b.getD c.toNat 0).toNat : Int) = 34))) || (decide (((b.getD c.toNat 0).toNat : Int) = 39))) || (decide (((b.getD c.toNat 0).toNat : Int) = 62))) || (decide (((b.getD c.toNat 0).toNat : Int) = 47))) || (decide (((b.getD c.toNat 0).toNat : Int) = 61))) || (decide (((b.getD c.toNat 0).toNat : Int) = 60)))) rfl (fun hg => r_move (cv_get (hA152.get rfl) hg)) fun b5 a1 _ => ?_)
   refine sq (opk_gval a1 rfl rfl (g := (true && ((((((((d || (decide (((b.getD c.toNat 0).toNat : Int) = 0))) || (decide (((b.getD c.toNat 0).toNat : Int) = 34))) || (decide (((b.getD c.toNat 0).toNat : Int) = 39))) || (decide (((b.getD c.toNat 0).toNat : Int) = 62))) || (decide (((b.getD c.toNat 0).toNat : Int) = 47))) || (decide (((b.getD c.toNat 0).toNat : Int) = 61))) || (decide (((b.getD c.toNat 0).toNat : Int) = 60))) == false))) (e := (decide (65 ≤ ((b.getD c.toNat 0).toNat : Int)))) rfl (fun hg => r_move (a1.get rfl)) fun b6 a2 _ => ?_)
   refine sq (opk_gval a2 rfl rfl (g := (true && ((((((((d || (decide (((b.getD c.toNat 0).toNat : Int) = 0))) || (decide (((b.getD c.toNat 0).toNat : Int) = 34))) || (decide (((b.getD c.toNat 0).toNat : Int) = 39))) || (decide (((b.getD c.toNat 0).toNat : Int) = 62))) || (decide (((b.getD c.toNat 0).toNat : Int) = 47))) || (decide (((b.getD c.toNat 0).toNat : Int) = 61))) || (decide (((b.getD c.toNat 0).toNat : Int) = 60))) == false))) (e := (decide (65 ≤ ((b.getD c.toNat 0).toNat : Int)))) rfl (fun hg => r_leq (cv_get (a2.get rfl) hg) rfl) fun b7 ad _ => ?_)
   refine sq (opk_gval ad rfl rfl (g := true) (e := (((((((d || (decide (((b.getD c.toNat 0).toNat : Int) = 0))) || (decide (((b.getD c.toNat 0).toNat : Int) = 34))) || (decide (((b.getD c.toNat 0).toNat : Int) = 39))) || (decide (((b.getD c.toNat 0).toNat : Int) = 62))) || (decide (((b.getD c.toNat 0).toNat : Int) = 47))) || (decide (((b.getD c.toNat 0).toNat : Int) = 61))) || (decide (((b.getD c.toNat 0).toNat : Int) = 60)))) rfl (fun hg => r_pick_and (g := ((true && ((((((((d || (decide (((b.getD c.toNat 0).toNat : Int) = 0))) || (decide (((b.getD c.toNat 0).toNat : Int) = 34))) || (decide (((b.getD c.toNat 0).toNat : Int) = 39))) || (decide (((b.getD c.toNat 0).toNat : Int) = 62))) || (decide (((b.getD c.toNat 0).toNat : Int) = 47))) || (decide (((b.getD c.toNat 0).toNat : Int) = 61))) || (decide (((b.getD c.toNat 0).toNat : Int) = 60))) == false)) && ((decide (65 ≤ ((b.getD c.toNat 0).toNat : Int))) == true))) (cv_get (ad.get rfl) hg) (ad.get rfl) (fun he => g_mkt hg he)) fun b8 af _ => ?_)
   refine sqv af rfl (r_pick_or (g := (true && ((((((((d || (decide (((b.getD c.toNat 0).toNat : Int) = 0))) || (decide (((b.getD c.toNat 0).toNat : Int) = 34))) || (decide (((b.getD c.toNat 0).toNat : Int) = 39))) || (decide (((b.getD c.toNat 0).toNat : Int) = 62))) || (decide (((b.getD c.toNat 0).toNat : Int) = 47))) || (decide (((b.getD c.toNat 0).toNat : Int) = 61))) || (decide (((b.getD c.toNat 0).toNat : Int) = 60))) == false))) (af.get rfl) (af.get rfl) (fun he => g_mkf rfl he)) fun _ br => sq_end ?_
   have m := br.kp [(0, .string (Bs b)), (3, .int .i64 c), (59, .bool ((((((((d || (decide (((b.getD c.toNat 0).toNat : Int) = 0))) || (decide (((b.getD c.toNat 0).toNat : Int) = 34))) || (decide (((b.getD c.toNat 0).toNat : Int) = 39))) || (decide (((b.getD c.toNat 0).toNat : Int) = 62))) || (decide (((b.getD c.toNat 0).toNat : Int) = 47))) || (decide (((b.getD c.toNat 0).toNat : Int) = 61))) || (decide (((b.getD c.toNat 0).toNat : Int) = 60))) || ((decide (65 ≤ ((b.getD c.toNat 0).toNat : Int))) && (decide (((b.getD c.toNat 0).toNat : Int) ≤ 90)))))] rfl
   refine then_normal ?_
   refine wp_cond_split (m.get rfl) (fun hc => ?_) (fun hc => ?_)
   ·have bs := aA.1 ((b_or_t hc).imp (fun h => ((b_or_t h).imp (fun h => ((b_or_t h).imp (fun h => ((b_or_t h).imp (fun h => ((b_or_t h).imp (fun h => ((b_or_t h).imp (fun h => ((b_or_t h).imp (fun h => ((b_or_t h).imp (fun h => h) (fun h => (of_decide_eq_true h)))) (fun h => (of_decide_eq_true h)))) (fun h => (of_decide_eq_true h)))) (fun h => (of_decide_eq_true h)))) (fun h => (of_decide_eq_true h)))) (fun h => (of_decide_eq_true h)))) (fun h => (of_decide_eq_true h)))) (fun h => ⟨(of_decide_eq_true (b_and_t h).1), (of_decide_eq_true (b_and_t h).2)⟩))
    clear hc
    refine wp_seq (wp_region_lit ?_)
    refine sqv m rfl (r_assign rfl) fun _ bt => sq_end ?_
    have a3 := bt.kp [(2, .bool false)] rfl
    refine then_normal ?_
    refine wp_ret ?_
    refine block_ret ?_
    refine then_ret ?_
    refine then_ret ?_
    refine block_ret ?_
    refine then_ret ?_
    exact res_all (vs := [.bool false]) rfl a3 ⟨res_of_tmp a3 rfl, trivial⟩ bs
   ·have bu := aA.2 ⟨⟨⟨⟨⟨⟨⟨⟨(b_or_f (b_or_f (b_or_f (b_or_f (b_or_f (b_or_f (b_or_f (b_or_f hc).1).1).1).1).1).1).1).1, (of_decide_eq_false (b_or_f (b_or_f (b_or_f (b_or_f (b_or_f (b_or_f (b_or_f (b_or_f hc).1).1).1).1).1).1).1).2)⟩, (of_decide_eq_false (b_or_f (b_or_f (b_or_f (b_or_f (b_or_f (b_or_f (b_or_f hc).1).1).1).1).1).1).2)⟩, (of_decide_eq_false (b_or_f (b_or_f (b_or_f (b_or_f (b_or_f (b_or_f hc).1).1).1).1).1).2)⟩, (of_decide_eq_false (b_or_f (b_or_f (b_or_f (b_or_f (b_or_f hc).1).1).1).1).2)⟩, (of_decide_eq_false (b_or_f (b_or_f (b_or_f (b_or_f hc).1).1).1).2)⟩, (of_decide_eq_false (b_or_f (b_or_f (b_or_f hc).1).1).2)⟩, (of_decide_eq_false (b_or_f (b_or_f hc).1).2)⟩, ((b_and_f (b_or_f hc).2).imp (fun h => (of_decide_eq_false h)) (fun h => (of_decide_eq_false h)))⟩
    clear hc
    refine wp_skip ?_
    refine block_normal ?_
    refine then_normal (wp_region_lit ?_)
    refine sqv m rfl (r_move (m.get rfl)) fun _ a4 => ?_
    obtain ⟨bv, a5⟩ := bu
    refine sqv a4 rfl (r_addI (a4.get rfl) rfl bv) fun _ a6 => sqv a6 rfl (r_assign (a6.get rfl)) fun _ bx => sq_end ?_
    have bz := bx.kp [(0, .string (Bs b)), (3, .int .i64 (c + 1))] rfl
    have bA := bz.kp [(0, .string (Bs b)), (3, .int .i64 (c + 1))] rfl
    exact then_normal ⟨(c + 1, j), ⟨bA, rfl, a5.1⟩, a5.2⟩
  ·have bB := ap.2 (of_decide_eq_false hc)
   clear hc
   refine wp_exit ?_
   refine then_exit ?_
   refine then_exit ?_
   refine block_hit ?_
   have bC := l.kp [] rfl
   refine then_normal (wp_seq (wp_region_lit ?_))
   refine sqv bC rfl (r_assign rfl) fun _ bD => sq_end ?_
   have a7 := bD.kp [(2, .bool true)] rfl
   refine then_normal ?_
   refine wp_ret ?_
   exact res_all (vs := [.bool true]) rfl a7 ⟨res_of_tmp a7 rfl, trivial⟩ bB
end Go.Proofs.Yteohbfaechfliaa
