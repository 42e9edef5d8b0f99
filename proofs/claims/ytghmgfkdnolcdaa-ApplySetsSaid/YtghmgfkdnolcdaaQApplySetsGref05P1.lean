/-
  PRINTED BY PROGRAM: for each function its condition (vc), and that this suffices (ok).
-/
import Derived.Test.YtghmgfkdnolcdaaQApplySetsGT
namespace Go.Proofs.Ytghmgfkdnolcdaa
open Go.RowKit
set_option linter.unusedVariables false
set_option maxHeartbeats 1000000
set_option maxRecDepth 10000
def ref05_Check.vc (a : Int) (b : Str) (c : Str) (d : Sl) (f : Sl) (R : Value → World → Prop) (w : World) : Prop :=
∀ (i : World) (m : Nat), New w m i → Chg [] w i →
∃ (h : Int), (((a = 1)) → Calls Try.prog 69 #[.agg #[.int .i64 a, .string (Bs b), .string (Bs c), Sl.v d, Sl.v f]] i (Ret fun v w' => Ext i w' ∧ v = .int .i64 h)) ∧
(∀ k : World, Ext i k →
∃ (j : Int), ((((a = 1) ∧ (h ≤ 300))) → Calls Try.prog 70 #[.agg #[.int .i64 a, .string (Bs b), .string (Bs c), Sl.v d, Sl.v f]] k (Ret fun v w' => Ext k w' ∧ v = .int .i64 j)) ∧
(∀ l : World, Ext k l →
∃ (n : Bool), (((((a = 1) ∧ (h ≤ 300)) ∧ (j ≤ 60))) → Calls Try.prog 71 #[.agg #[.int .i64 a, .string (Bs b), .string (Bs c), Sl.v d, Sl.v f], .bool true, .bool false] l (Ret fun v w' => Ext l w' ∧ v = .bool n)) ∧
(∀ o : World, Ext l o →
R (.bool ((((decide (a = 1)) && (decide (h ≤ 300))) && (decide (j ≤ 60))) && n)) o)))
theorem ref05_Check.ok (a : Int) (b : Str) (c : Str) (d : Sl) (f : Sl) {R : Value → World → Prop} {w : World} (y : ref05_Check.vc a b c d f R w) : Calls Try.prog 41 #[.agg #[.int .i64 a, .string (Bs b), .string (Bs c), Sl.v d, Sl.v f]] w (Ret R) := by
 refine enter [.agg #[.int .i64 a, .string (Bs b), .string (Bs c), Sl.v d, Sl.v f]] Try.func41 rfl Try.ntmps41 rfl ?_
 intro a0 z
 unfold ref05_Check.vc at y
 refine wp_seq (wp_region_lit ?_)
 refine sq (opk_new (fun B => .pointer (some ⟨B, 0, none⟩)) z rfl (r_box (cs := [.int .i64 a, .string (Bs b), .string (Bs c), Sl.v d, Sl.v f]) (z.get rfl) rfl) fun a4 i m ax ay p az _ => ?_)
 have aA : New w m i := ay
 have aB : Chg [] w i := ax
 refine sqv az rfl (r_assign rfl) fun _ aC => ?_
 refine sq_end ?_
 have aa := aC.keep [(1, .pointer (some (⟨m, 0, none⟩ : Addr)))] ⟨rfl, trivial⟩
 refine then_normal (wp_seq (wp_region_lit ?_))
 refine sqv aa rfl (r_fieldAddr (aa.get rfl) Try.underlying29 rfl ti_3 (by decide)) fun _ ab => ?_
 refine sqv ab rfl (r_load1 Try.underlying3 rfl (ab.get rfl) (p.cell 0 _ rfl)) fun _ ad => ?_
 refine sqv ad rfl (r_eql (ad.get rfl) rfl) fun _ af => ?_
 refine sqv af rfl (r_move (af.get rfl)) fun _ ag => ?_
 refine sq (opk_gval ag rfl rfl (g := true) (e := (decide (a = 1))) rfl (fun hg => r_loadN (cs := [.int .i64 a, .string (Bs b), .string (Bs c), Sl.v d, Sl.v f]) Try.underlying29 rfl ti_29 (ag.get rfl) (p.part 0 _ rfl)) fun aR ah _ => ?_)
 have aD := y i m aA  aB
 obtain ⟨h, aF, aG⟩ := aD
 refine sq (opk_gcall ah rfl rfl (g := true) (e := (decide (a = 1))) rfl (fun hg => r_call (args := #[.agg #[.int .i64 a, .string (Bs b), .string (Bs c), Sl.v d, Sl.v f]]) Try.func69 (by decide) rfl (map_arr (ml_cons (cv_get (ah.get rfl) hg) ml_nil)) rfl) (fun hg => aF (of_decide_eq_true (g_t hg))) fun aS k ai _ q => ?_)
 have aj := p.ext q
 have aT : Chg [] i k := q
 have aH := aG k q
 refine sq (opk_gval ai rfl rfl (g := true) (e := (decide (a = 1))) rfl (fun hg => r_leq (cv_get (ai.get rfl) hg) rfl) fun aU r _ => ?_)
 refine sqv r rfl (r_pick_and (g := (true && ((decide (a = 1)) == true))) (r.get rfl) (r.get rfl) (fun he => g_mkt rfl he)) fun _ ak => ?_
 refine sqv ak rfl (r_move (ak.get rfl)) fun _ al => ?_
 refine sq (opk_gval al rfl rfl (g := true) (e := ((decide (a = 1)) && (decide (h ≤ 300)))) rfl (fun hg => r_loadN (cs := [.int .i64 a, .string (Bs b), .string (Bs c), Sl.v d, Sl.v f]) Try.underlying29 rfl ti_29 (al.get rfl) (aj.part 0 _ rfl)) fun aV am _ => ?_)
 obtain ⟨j, aI, aJ⟩ := aH
 refine sq (opk_gcall am rfl rfl (g := true) (e := ((decide (a = 1)) && (decide (h ≤ 300)))) rfl (fun hg => r_call (args := #[.agg #[.int .i64 a, .string (Bs b), .string (Bs c), Sl.v d, Sl.v f]]) Try.func70 (by decide) rfl (map_arr (ml_cons (cv_get (am.get rfl) hg) ml_nil)) rfl) (fun hg => aI ⟨(of_decide_eq_true (b_and_t (g_t hg)).1), (of_decide_eq_true (b_and_t (g_t hg)).2)⟩) fun aX l an _ s => ?_)
 have ao := aj.ext s
 have aY : Chg [] k l := s
 have aK := aJ l s
 refine sq (opk_gval an rfl rfl (g := true) (e := ((decide (a = 1)) && (decide (h ≤ 300)))) rfl (fun hg => r_leq (cv_get (an.get rfl) hg) rfl) fun aZ t _ => ?_)
 refine sqv t rfl (r_pick_and (g := (true && (((decide (a = 1)) && (decide (h ≤ 300))) == true))) (t.get rfl) (t.get rfl) (fun he => g_mkt rfl he)) fun _ ap => ?_
 refine sqv ap rfl (r_move (ap.get rfl)) fun _ aq => ?_
 refine sq (opk_gval aq rfl rfl (g := true) (e := (((decide (a = 1)) && (decide (h ≤ 300))) && (decide (j ≤ 60)))) rfl (fun hg => r_loadN (cs := [.int .i64 a, .string (Bs b), .string (Bs c), Sl.v d, Sl.v f]) Try.underlying29 rfl ti_29 (aq.get rfl) (ao.part 0 _ rfl)) fun a1 ar _ => ?_)
 obtain ⟨n, aL, aM⟩ := aK
 refine sq (opk_gcall ar rfl rfl (g := true) (e := (((decide (a = 1)) && (decide (h ≤ 300))) && (decide (j ≤ 60)))) rfl (fun hg => r_call (args := #[.agg #[.int .i64 a, .string (Bs b), .string (Bs c), Sl.v d, Sl.v f], .bool true, .bool false]) Try.func71 (by decide) rfl (map_arr (ml_cons (cv_get (ar.get rfl) hg) (ml_cons rfl (ml_cons rfl ml_nil)))) rfl) (fun hg => aL ⟨⟨(of_decide_eq_true (b_and_t (b_and_t (g_t hg)).1).1), (of_decide_eq_true (b_and_t (b_and_t (g_t hg)).1).2)⟩, (of_decide_eq_true (b_and_t (g_t hg)).2)⟩) fun a2 o u _ x => ?_)
 have a3 := ao.ext x
 have a5 : Chg [] l o := x
 have aN := aM o x
 refine sqv u rfl (r_pick_and (g := (true && ((((decide (a = 1)) && (decide (h ≤ 300))) && (decide (j ≤ 60))) == true))) (u.get rfl) (u.get rfl) (fun he => g_mkt rfl he)) fun _ au => ?_
 refine sqv au rfl (r_assign (au.get rfl)) fun _ aO => ?_
 refine sq_end ?_
 have av := aO.keep [(2, .bool ((((decide (a = 1)) && (decide (h ≤ 300))) && (decide (j ≤ 60))) && n))] ⟨rfl, trivial⟩
 refine then_normal ?_
 refine wp_ret ?_
 exact res_all (vs := [.bool ((((decide (a = 1)) && (decide (h ≤ 300))) && (decide (j ≤ 60))) && n)]) rfl av ⟨res_of_tmp av rfl, trivial⟩ aN
def ref05_Size.vc (j : Int) (k : Str) (l : Str) (m : Sl) (f : Sl) (R : Value → World → Prop) (w : World) : Prop :=
∀ (h : World) (d : Nat), New w d h → Chg [] w h →
∃ (o : Int → Int → World → Prop) (p : Int → Int → World → Nat),
o 1 0 h ∧
(∀ (c : Int) (b : Int) (i : World), o c b i →
((b < (f.n : Int)) →
((0 : Int) ≤ b ∧ b < (f.n : Int)) ∧ ∃ aa : Addr, f.a = some aa ∧
∃ (q : Int) (r : Str) (t : Str) (u : Sl) (x : Sl), (Cells i (aa.add (b.toNat * 5)) [.int .i64 q, .string (Bs r), .string (Bs t), Sl.v u, Sl.v x]) ∧
CallK Try.prog 69 #[.agg #[.int .i64 q, .string (Bs r), .string (Bs t), Sl.v u, Sl.v x]] i [d] (fun v y => ∃ (g : Int), v = .int .i64 g ∧
(I64 (c + g)) ∧
(I64 (b + 1)) ∧
o (c + g) (b + 1) y ∧ p (c + g) (b + 1) y < p c b i)) ∧
((¬ (b < (f.n : Int))) →
R (.int .i64 c) i))
theorem ref05_Size.ok (j : Int) (k : Str) (l : Str) (m : Sl) (f : Sl) {R : Value → World → Prop} {w : World} (ah : ref05_Size.vc j k l m f R w) : Calls Try.prog 69 #[.agg #[.int .i64 j, .string (Bs k), .string (Bs l), Sl.v m, Sl.v f]] w (Ret R) := by
 refine enter [.agg #[.int .i64 j, .string (Bs k), .string (Bs l), Sl.v m, Sl.v f]] Try.func69 rfl Try.ntmps69 rfl ?_
 intro a0 ai
 unfold ref05_Size.vc at ah
 refine wp_seq (wp_region_lit ?_)
 refine sq (opk_new (fun B => .pointer (some ⟨B, 0, none⟩)) ai rfl (r_box (cs := [.int .i64 j, .string (Bs k), .string (Bs l), Sl.v m, Sl.v f]) (ai.get rfl) rfl) fun a4 h d aF aG aH aI _ => ?_)
 have aJ : New w d h := aG
 have aK : Chg [] w h := aF
 refine sqv aI rfl (r_assign rfl) fun _ aL => ?_
 refine sq_end ?_
 have aM := aL.keep [(1, .pointer (some (⟨d, 0, none⟩ : Addr)))] ⟨rfl, trivial⟩
 refine then_normal (wp_seq (wp_region_lit ?_))
 refine sqv aM rfl (r_assign rfl) fun _ aN => ?_
 refine sq_end ?_
 have aO := aN.keep [(1, .pointer (some (⟨d, 0, none⟩ : Addr))), (3, .int .i64 1)] ⟨rfl, rfl, trivial⟩
 refine then_normal (wp_seq (wp_seq (wp_region_lit ?_)))
 refine sqv aO rfl (r_assign rfl) fun _ aP => ?_
 refine sq_end ?_
 have aQ := aP.keep [(1, .pointer (some (⟨d, 0, none⟩ : Addr))), (3, .int .i64 1), (4, .int .i64 0)] ⟨rfl, rfl, rfl, trivial⟩
 refine then_normal (wp_block ?_)
 have aR := ah h d aJ  aK
 obtain ⟨o, p, aS, aT⟩ := aR
 refine wp_loop_st (σ := Int × Int × World) (fun s a w => Ag 21 a [(1, .pointer (some (⟨d, 0, none⟩ : Addr))), (3, .int .i64 s.1), (4, .int .i64 s.2.1)] ∧ Box w d 29 [.int .i64 j, .string (Bs k), .string (Bs l), Sl.v m, Sl.v f] ∧ w = s.2.2 ∧ o s.1 s.2.1 s.2.2) (fun s => p s.1 s.2.1 s.2.2) (1, 0, h) ⟨aQ.keep [(1, .pointer (some (⟨d, 0, none⟩ : Addr))), (3, .int .i64 1), (4, .int .i64 0)] ⟨rfl, rfl, rfl, trivial⟩, aH, rfl, aS⟩ ?_
 rintro ⟨c, b, i⟩ bk w_ ⟨aj, ab, hw_, aU⟩
 have hw_ : i = w_ := hw_.symm
 subst hw_
 have ak := aT c b _ aU
 refine wp_seq (wp_seq (wp_region_lit ?_))
 refine sqv aj rfl (r_move (aj.get rfl)) fun _ al => ?_
 refine sqv al rfl (r_fieldAddr (al.get rfl) Try.underlying29 rfl ti_27 (by decide)) fun _ am => ?_
 refine sqv am rfl (r_load1 Try.underlying27 rfl (am.get rfl) (ab.cell 4 _ rfl)) fun _ an => ?_
 refine sqv an rfl (r_len (an.get rfl) Try.underlying27) fun _ ad => ?_
 refine sqv ad rfl (r_lss (ad.get rfl) (ad.get rfl)) fun _ aV => ?_
 refine sq_end ?_
 have z := aV.keep [(1, .pointer (some (⟨d, 0, none⟩ : Addr))), (3, .int .i64 c), (4, .int .i64 b), (9, .bool (decide (b < (f.n : Int))))] ⟨rfl, rfl, rfl, rfl, trivial⟩
 refine then_normal ?_
 refine wp_cond_split (z.get rfl) (fun hc => ?_) (fun hc => ?_)
 ·have aX := ak.1 (of_decide_eq_true hc)
  clear hc
  refine wp_skip ?_
  refine then_normal (wp_seq (wp_block (wp_region_lit ?_)))
  refine sqv z rfl (r_move (z.get rfl)) fun _ ao => ?_
  refine sqv ao rfl (r_fieldAddr (ao.get rfl) Try.underlying29 rfl ti_27 (by decide)) fun _ ap => ?_
  refine sqv ap rfl (r_load1 Try.underlying27 rfl (ap.get rfl) (ab.cell 4 _ rfl)) fun _ aq => ?_
  refine sqv aq rfl (r_move (aq.get rfl)) fun _ af => ?_
  obtain ⟨aY, aa, aZ, ht86⟩ := aX
  refine sqv af rfl (r_indexAddr (af.get rfl) (af.get rfl) Try.underlying27 ti_29 aY aZ) fun _ ar => ?_
  obtain ⟨q, r, t, u, x, a1, a2⟩ := ht86
  refine sqv ar rfl (r_loadN Try.underlying29 rfl ti_29 (ar.get rfl) a1) fun _ au => ?_
  refine sq (opk_call au rfl (r_call (args := #[.agg #[.int .i64 q, .string (Bs r), .string (Bs t), Sl.v u, Sl.v x]]) Try.func69 (by decide) rfl (map_arr (ml_cons (au.get rfl) ml_nil)) rfl) a2 fun bl bm y ag _ a3 bn hK98 => ?_)
  obtain ⟨g, rfl, a5⟩ := hK98
  have a6 := ab.kept a3 (.head _)
  obtain ⟨a7, a8⟩ := a5
  refine sqv ag rfl (r_addI (ag.get rfl) (ag.get rfl) a7) fun _ av => ?_
  refine sqv av rfl (r_assign (av.get rfl)) fun _ a9 => ?_
  refine sq_end ?_
  have ax := a9.keep [(1, .pointer (some (⟨d, 0, none⟩ : Addr))), (3, .int .i64 (c + g)), (4, .int .i64 b)] ⟨rfl, rfl, rfl, trivial⟩
  refine block_normal ?_
  refine then_normal (wp_region_lit ?_)
  refine sqv ax rfl (r_move (ax.get rfl)) fun _ ay => ?_
  obtain ⟨ba, az⟩ := a8
  refine sqv ay rfl (r_addI (ay.get rfl) rfl ba) fun _ aA => ?_
  refine sqv aA rfl (r_assign (aA.get rfl)) fun _ bb => ?_
  refine sq_end ?_
  have bd := bb.keep [(1, .pointer (some (⟨d, 0, none⟩ : Addr))), (3, .int .i64 (c + g)), (4, .int .i64 (b + 1))] ⟨rfl, rfl, rfl, trivial⟩
  have bf := bd.keep [(1, .pointer (some (⟨d, 0, none⟩ : Addr))), (3, .int .i64 (c + g)), (4, .int .i64 (b + 1))] ⟨rfl, rfl, rfl, trivial⟩
  exact then_normal ⟨(c + g, b + 1, y), ⟨bf, a6, rfl, az.1⟩, az.2⟩
 ·have bg := ak.2 (of_decide_eq_false hc)
  clear hc
  refine wp_exit ?_
  refine then_exit ?_
  refine then_exit ?_
  refine block_hit ?_
  have aB := z.keep [(3, .int .i64 c)] ⟨rfl, trivial⟩
  refine then_normal (wp_seq (wp_region_lit ?_))
  refine sqv aB rfl (r_move (aB.get rfl)) fun _ aC => ?_
  refine sqv aC rfl (r_assign (aC.get rfl)) fun _ bh => ?_
  refine sq_end ?_
  have aD := bh.keep [(2, .int .i64 c)] ⟨rfl, trivial⟩
  refine then_normal ?_
  refine wp_ret ?_
  exact res_all (vs := [.int .i64 c]) rfl aD ⟨res_of_tmp aD rfl, trivial⟩ bg
def ref05_Depth.vc (j : Int) (k : Str) (l : Str) (m : Sl) (f : Sl) (R : Value → World → Prop) (w : World) : Prop :=
∀ (g : World) (d : Nat), New w d g → Chg [] w g →
∃ (o : Int → Int → World → Prop) (p : Int → Int → World → Nat),
o 0 0 g ∧
(∀ (c : Int) (b : Int) (i : World), o c b i →
((b < (f.n : Int)) →
((0 : Int) ≤ b ∧ b < (f.n : Int)) ∧ ∃ aa : Addr, f.a = some aa ∧
∃ (q : Int) (r : Str) (t : Str) (u : Sl) (x : Sl), (Cells i (aa.add (b.toNat * 5)) [.int .i64 q, .string (Bs r), .string (Bs t), Sl.v u, Sl.v x]) ∧
CallK Try.prog 70 #[.agg #[.int .i64 q, .string (Bs r), .string (Bs t), Sl.v u, Sl.v x]] i [d] (fun v y => ∃ (h : Int), v = .int .i64 h ∧
(I64 (b + 1)) ∧
o (max c h) (b + 1) y ∧ p (max c h) (b + 1) y < p c b i)) ∧
((¬ (b < (f.n : Int))) →
(I64 (c + 1)) ∧
R (.int .i64 (c + 1)) i))
theorem ref05_Depth.ok (j : Int) (k : Str) (l : Str) (m : Sl) (f : Sl) {R : Value → World → Prop} {w : World} (ah : ref05_Depth.vc j k l m f R w) : Calls Try.prog 70 #[.agg #[.int .i64 j, .string (Bs k), .string (Bs l), Sl.v m, Sl.v f]] w (Ret R) := by
 refine enter [.agg #[.int .i64 j, .string (Bs k), .string (Bs l), Sl.v m, Sl.v f]] Try.func70 rfl Try.ntmps70 rfl ?_
 intro a0 ai
 unfold ref05_Depth.vc at ah
 refine wp_seq (wp_region_lit ?_)
 refine sq (opk_new (fun B => .pointer (some ⟨B, 0, none⟩)) ai rfl (r_box (cs := [.int .i64 j, .string (Bs k), .string (Bs l), Sl.v m, Sl.v f]) (ai.get rfl) rfl) fun a4 g d aG aH aI aJ _ => ?_)
 have aK : New w d g := aH
 have aL : Chg [] w g := aG
 refine sqv aJ rfl (r_assign rfl) fun _ aM => ?_
 refine sq_end ?_
 have aN := aM.keep [(1, .pointer (some (⟨d, 0, none⟩ : Addr)))] ⟨rfl, trivial⟩
 refine then_normal (wp_seq (wp_region_lit ?_))
 refine sqv aN rfl (r_assign rfl) fun _ aO => ?_
 refine sq_end ?_
 have aP := aO.keep [(1, .pointer (some (⟨d, 0, none⟩ : Addr))), (3, .int .i64 0)] ⟨rfl, rfl, trivial⟩
 refine then_normal (wp_seq (wp_seq (wp_region_lit ?_)))
 refine sqv aP rfl (r_assign rfl) fun _ aQ => ?_
 refine sq_end ?_
 have aR := aQ.keep [(1, .pointer (some (⟨d, 0, none⟩ : Addr))), (3, .int .i64 0), (4, .int .i64 0)] ⟨rfl, rfl, rfl, trivial⟩
 refine then_normal (wp_block ?_)
 have aS := ah g d aK  aL
 obtain ⟨o, p, aT, aU⟩ := aS
 refine wp_loop_st (σ := Int × Int × World) (fun s a w => Ag 22 a [(1, .pointer (some (⟨d, 0, none⟩ : Addr))), (3, .int .i64 s.1), (4, .int .i64 s.2.1)] ∧ Box w d 29 [.int .i64 j, .string (Bs k), .string (Bs l), Sl.v m, Sl.v f] ∧ w = s.2.2 ∧ o s.1 s.2.1 s.2.2) (fun s => p s.1 s.2.1 s.2.2) (0, 0, g) ⟨aR.keep [(1, .pointer (some (⟨d, 0, none⟩ : Addr))), (3, .int .i64 0), (4, .int .i64 0)] ⟨rfl, rfl, rfl, trivial⟩, aI, rfl, aT⟩ ?_
 rintro ⟨c, b, i⟩ bl w_ ⟨aj, ab, hw_, aV⟩
 have hw_ : i = w_ := hw_.symm
 subst hw_
 have ak := aU c b _ aV
 refine wp_seq (wp_seq (wp_region_lit ?_))
 refine sqv aj rfl (r_move (aj.get rfl)) fun _ al => ?_
 refine sqv al rfl (r_fieldAddr (al.get rfl) Try.underlying29 rfl ti_27 (by decide)) fun _ am => ?_
 refine sqv am rfl (r_load1 Try.underlying27 rfl (am.get rfl) (ab.cell 4 _ rfl)) fun _ an => ?_
 refine sqv an rfl (r_len (an.get rfl) Try.underlying27) fun _ ad => ?_
 refine sqv ad rfl (r_lss (ad.get rfl) (ad.get rfl)) fun _ aX => ?_
 refine sq_end ?_
 have z := aX.keep [(1, .pointer (some (⟨d, 0, none⟩ : Addr))), (3, .int .i64 c), (4, .int .i64 b), (9, .bool (decide (b < (f.n : Int))))] ⟨rfl, rfl, rfl, rfl, trivial⟩
 refine then_normal ?_
 refine wp_cond_split (z.get rfl) (fun hc => ?_) (fun hc => ?_)
 ·have aY := ak.1 (of_decide_eq_true hc)
  clear hc
  refine wp_skip ?_
  refine then_normal (wp_seq (wp_block (wp_region_lit ?_)))
  refine sqv z rfl (r_move (z.get rfl)) fun _ ao => ?_
  refine sqv ao rfl (r_fieldAddr (ao.get rfl) Try.underlying29 rfl ti_27 (by decide)) fun _ ap => ?_
  refine sqv ap rfl (r_load1 Try.underlying27 rfl (ap.get rfl) (ab.cell 4 _ rfl)) fun _ aq => ?_
  refine sqv aq rfl (r_move (aq.get rfl)) fun _ af => ?_
  obtain ⟨aZ, aa, hp83, a1⟩ := aY
  refine sqv af rfl (r_indexAddr (af.get rfl) (af.get rfl) Try.underlying27 ti_29 aZ hp83) fun _ ar => ?_
  obtain ⟨q, r, t, u, x, a2, a3⟩ := a1
  refine sqv ar rfl (r_loadN Try.underlying29 rfl ti_29 (ar.get rfl) a2) fun _ au => ?_
  refine sq (opk_call au rfl (r_call (args := #[.agg #[.int .i64 q, .string (Bs r), .string (Bs t), Sl.v u, Sl.v x]]) Try.func70 (by decide) rfl (map_arr (ml_cons (au.get rfl) ml_nil)) rfl) a3 fun bm bn y ag _ hn94 bo a5 => ?_)
  obtain ⟨h, rfl, a6⟩ := a5
  have a7 := ab.kept hn94 (.head _)
  refine sqv ag rfl (r_max (ag.get rfl) (ag.get rfl)) fun _ av => ?_
  refine sqv av rfl (r_assign (av.get rfl)) fun _ a8 => ?_
  refine sq_end ?_
  have ax := a8.keep [(1, .pointer (some (⟨d, 0, none⟩ : Addr))), (3, .int .i64 (max c h)), (4, .int .i64 b)] ⟨rfl, rfl, rfl, trivial⟩
  refine block_normal ?_
  refine then_normal (wp_region_lit ?_)
  refine sqv ax rfl (r_move (ax.get rfl)) fun _ ay => ?_
  obtain ⟨a9, az⟩ := a6
  refine sqv ay rfl (r_addI (ay.get rfl) rfl a9) fun _ aA => ?_
  refine sqv aA rfl (r_assign (aA.get rfl)) fun _ ba => ?_
  refine sq_end ?_
  have bb := ba.keep [(1, .pointer (some (⟨d, 0, none⟩ : Addr))), (3, .int .i64 (max c h)), (4, .int .i64 (b + 1))] ⟨rfl, rfl, rfl, trivial⟩
  have bd := bb.keep [(1, .pointer (some (⟨d, 0, none⟩ : Addr))), (3, .int .i64 (max c h)), (4, .int .i64 (b + 1))] ⟨rfl, rfl, rfl, trivial⟩
  exact then_normal ⟨(max c h, b + 1, y), ⟨bd, a7, rfl, az.1⟩, az.2⟩
 ·have bf := ak.2 (of_decide_eq_false hc)
  clear hc
  refine wp_exit ?_
  refine then_exit ?_
  refine then_exit ?_
  refine block_hit ?_
  have aB := z.keep [(3, .int .i64 c)] ⟨rfl, trivial⟩
  refine then_normal (wp_seq (wp_region_lit ?_))
  refine sqv aB rfl (r_move (aB.get rfl)) fun _ aC => ?_
  obtain ⟨bg, bh⟩ := bf
  refine sqv aC rfl (r_addI (aC.get rfl) rfl bg) fun _ aD => ?_
  refine sqv aD rfl (r_assign (aD.get rfl)) fun _ bi => ?_
  refine sq_end ?_
  have aF := bi.keep [(2, .int .i64 (c + 1))] ⟨rfl, trivial⟩
  refine then_normal ?_
  refine wp_ret ?_
  exact res_all (vs := [.int .i64 (c + 1)]) rfl aF ⟨res_of_tmp aF rfl, trivial⟩ bh
def ref05_all.vc (f : Int) (j : Str) (k : Str) (l : Sl) (d : Sl) (p : Bool) (q : Bool) (R : Value → World → Prop) (w : World) : Prop :=
∀ (r : World) (c : Nat), New w c r → Chg [] w r →
CallK Try.prog 87 #[.agg #[.int .i64 f, .string (Bs j), .string (Bs k), Sl.v l, Sl.v d], .bool p, .bool q] r [c] (fun v ah => ∃ (ab : Bool), v = .bool ab ∧
((ab = false) →
R (.bool false) ah) ∧
((ab = true) →
∃ (ad : Int → World → Prop) (ai : Int → World → Nat),
ad 0 ah ∧
(∀ (b : Int) (t : World), ad b t →
((b < (d.n : Int)) →
∀ (m : World), Chg [] t m →
∃ af : Addr, (((0 : Int) ≤ b ∧ b < (d.n : Int)) ∧ d.a = some af) ∧
∃ (u : Int) (x : Str) (y : Str) (z : Sl) (aa : Sl), (Cells m (af.add (b.toNat * 5)) [.int .i64 u, .string (Bs x), .string (Bs y), Sl.v z, Sl.v aa]) ∧
∃ (o : Bool), (∀ w' : World, Ext m w' → Calls Try.prog 71 #[.agg #[.int .i64 u, .string (Bs x), .string (Bs y), Sl.v z, Sl.v aa], .bool false, .bool (decide (f = 1))] w' (Ret fun v w'' => Ext w' w'' ∧ v = .bool o)) ∧
((o = false) →
∀ (i : World), Chg [] m i →
R (.bool false) i) ∧
((o = true) →
(I64 (b + 1)) ∧
∀ (i : World), Chg [] m i →
ad (b + 1) i ∧ ai (b + 1) i < ai b t)) ∧
((¬ (b < (d.n : Int))) →
R (.bool true) t))))
theorem ref05_all.ok (f : Int) (j : Str) (k : Str) (l : Sl) (d : Sl) (p : Bool) (q : Bool) {R : Value → World → Prop} {w : World} (ao : ref05_all.vc f j k l d p q R w) : Calls Try.prog 71 #[.agg #[.int .i64 f, .string (Bs j), .string (Bs k), Sl.v l, Sl.v d], .bool p, .bool q] w (Ret R) := by
 refine enter [.agg #[.int .i64 f, .string (Bs j), .string (Bs k), Sl.v l, Sl.v d], .bool p, .bool q] Try.func71 rfl Try.ntmps71 rfl ?_
 intro a0 ap
 unfold ref05_all.vc at ao
 refine wp_seq (wp_region_lit ?_)
 refine sq (opk_new (fun B => .pointer (some ⟨B, 0, none⟩)) ap rfl (r_box (cs := [.int .i64 f, .string (Bs j), .string (Bs k), Sl.v l, Sl.v d]) (ap.get rfl) rfl) fun a6 r c aR aS aq aT _ => ?_)
 have aU : New w c r := aS
 have aV : Chg [] w r := aR
 refine sqv aT rfl (r_assign rfl) fun _ aX => ?_
 refine sq_end ?_
 have ar := aX.keep [(1, .bool p), (2, .bool q), (3, .pointer (some (⟨c, 0, none⟩ : Addr)))] ⟨rfl, rfl, rfl, trivial⟩
 refine then_normal (wp_seq (wp_seq (wp_region_lit ?_)))
 refine sqv ar rfl (r_loadN (cs := [.int .i64 f, .string (Bs j), .string (Bs k), Sl.v l, Sl.v d]) Try.underlying29 rfl ti_29 (ar.get rfl) (aq.part 0 _ rfl)) fun _ au => ?_
 refine sqv au rfl (r_move (au.get rfl)) fun _ av => ?_
 refine sqv av rfl (r_move (av.get rfl)) fun _ aj => ?_
 have aY := ao r c aU  aV
 refine sq (opk_call aj rfl (r_call (args := #[.agg #[.int .i64 f, .string (Bs j), .string (Bs k), Sl.v l, Sl.v d], .bool p, .bool q]) Try.func87 (by decide) rfl (map_arr (ml_cons (aj.get rfl) (ml_cons (aj.get rfl) (ml_cons (aj.get rfl) ml_nil)))) rfl) aY fun bS bT ah ax _ aZ bU hK24 => ?_)
 obtain ⟨ab, rfl, ay⟩ := hK24
 have a1 := aq.kept aZ (.head _)
 refine sqv ax rfl (r_not (ax.get rfl)) fun _ a2 => ?_
 refine sq_end ?_
 have al := a2.keep [(3, .pointer (some (⟨c, 0, none⟩ : Addr))), (12, .bool (!ab))] ⟨rfl, rfl, trivial⟩
 refine then_normal ?_
 refine wp_cond_split (al.get rfl) (fun hc => ?_) (fun hc => ?_)
 ·have a3 := ay.1 (b_not_t hc)
  clear hc
  refine wp_seq (wp_region_lit ?_)
  refine sqv al rfl (r_assign rfl) fun _ a4 => ?_
  refine sq_end ?_
  have az := a4.keep [(6, .bool false)] ⟨rfl, trivial⟩
  refine then_normal ?_
  refine wp_ret ?_
  refine then_ret ?_
  exact res_all (vs := [.bool false]) rfl az ⟨res_of_tmp az rfl, trivial⟩ a3
 ·have a5 := ay.2 (b_not_f hc)
  clear hc
  refine wp_skip ?_
  refine then_normal (wp_seq (wp_seq (wp_region_lit ?_)))
  refine sqv al rfl (r_assign rfl) fun _ hA33 => ?_
  refine sq_end ?_
  have a7 := hA33.keep [(3, .pointer (some (⟨c, 0, none⟩ : Addr))), (7, .int .i64 0)] ⟨rfl, rfl, trivial⟩
  refine then_normal (wp_block ?_)
  obtain ⟨ad, ai, a8, a9⟩ := a5
  refine wp_loop_st (σ := Int × World) (fun s a w => Ag 30 a [(3, .pointer (some (⟨c, 0, none⟩ : Addr))), (7, .int .i64 s.1)] ∧ Box w c 29 [.int .i64 f, .string (Bs j), .string (Bs k), Sl.v l, Sl.v d] ∧ w = s.2 ∧ ad s.1 s.2) (fun s => ai s.1 s.2) (0, ah) ⟨a7.keep [(3, .pointer (some (⟨c, 0, none⟩ : Addr))), (7, .int .i64 0)] ⟨rfl, rfl, trivial⟩, a1, rfl, a8⟩ ?_
  rintro ⟨b, t⟩ bV w_ ⟨aA, aB, hw_, ba⟩
  have hw_ : t = w_ := hw_.symm
  subst hw_
  have aC := a9 b _ ba
  refine wp_seq (wp_seq (wp_region_lit ?_))
  refine sqv aA rfl (r_move (aA.get rfl)) fun _ aD => ?_
  refine sqv aD rfl (r_fieldAddr (aD.get rfl) Try.underlying29 rfl ti_27 (by decide)) fun _ aF => ?_
  refine sqv aF rfl (r_load1 Try.underlying27 rfl (aF.get rfl) (aB.cell 4 _ rfl)) fun _ aG => ?_
  refine sqv aG rfl (r_len (aG.get rfl) Try.underlying27) fun _ am => ?_
  refine sqv am rfl (r_lss (am.get rfl) (am.get rfl)) fun _ bb => ?_
  refine sq_end ?_
  have g := bb.keep [(3, .pointer (some (⟨c, 0, none⟩ : Addr))), (7, .int .i64 b), (17, .bool (decide (b < (d.n : Int))))] ⟨rfl, rfl, rfl, trivial⟩
  refine then_normal ?_
  refine wp_cond_split (g.get rfl) (fun hc => ?_) (fun hc => ?_)
  ·have bd := aC.1 (of_decide_eq_true hc)
   clear hc
   refine wp_skip ?_
   refine then_normal (wp_seq (wp_block (wp_seq ?_)))
   refine draw' (by kernel_rfl) fun m aH => ?_
   have an := aB.ext aH
   have bf : Chg [] t m := aH
   have bg := bd m    bf
   obtain ⟨af, aI, bh⟩ := bg
   obtain ⟨u, x, y, z, aa, bi, bj⟩ := bh
   obtain ⟨o, bk, aJ⟩ := bj
   refine par (D := [[], [0], [], [0, 1, 2], [0, 1, 2, 3], [], [5], [5, 6], [0, 1, 2, 3, 4, 5, 6, 7], [0, 1, 2, 3, 4, 5, 6, 7, 8]]) (S := [0, 1, 2, 3, 4, 5, 6, 7, 8, 9]) (F := []) (V := VL [(0, fun v _ => v = .pointer (some (⟨c, 4, none⟩ : Addr))), (1, fun v _ => v = Sl.v d), (2, fun v _ => v = .int .i64 b), (3, fun v _ => v = .pointer (some (af.add (b.toNat * 5)))), (4, fun v _ => v = .agg #[.int .i64 u, .string (Bs x), .string (Bs y), Sl.v z, Sl.v aa]), (5, fun v _ => v = .pointer (some (⟨c, 0, none⟩ : Addr))), (6, fun v _ => v = .int .i64 f), (7, fun v _ => v = .bool (decide (f = 1))), (8, fun v _ => v = .bool o), (9, fun v _ => v = .bool (!o))]) g (by kernel_rfl) ⟨fun _ _ _ _ h => h, fun _ _ _ _ h => h, fun _ _ _ _ h => h, fun _ _ _ _ h => h, fun _ _ _ _ h => h, fun _ _ _ _ h => h, fun _ _ _ _ h => h, fun _ _ _ _ h => h, fun _ _ _ _ h => h, fun _ _ _ _ h => h, trivial⟩ ⟨?_, ?_, ?_, ?_, ?_, ?_, ?_, ?_, ?_, ?_, trivial⟩ ?_
   ·intro a w hT
    have hAp := hT.ag g [(3, .pointer (some (⟨c, 0, none⟩ : Addr)))] ⟨rfl, trivial⟩ (by kernel_rfl)
    exact ovr hAp rfl (r_fieldAddr (hAp.get rfl) Try.underlying29 rfl ti_27 (by decide)) fun _ => Eq.refl _
   ·intro a w hT
    have hAp := hT.ag g [] trivial (by kernel_rfl)
    have bl : a.tmps.getD 20 undef = .pointer (some (⟨c, 4, none⟩ : Addr)) := hT.vals 0 rfl 20 rfl
    have hAp := hAp.add bl
    exact ovr hAp rfl (r_load1 Try.underlying27 rfl (hAp.get rfl) ((an.ext hT.chg).cell 4 _ rfl)) fun _ => Eq.refl _
   ·intro a w hT
    have hAp := hT.ag g [(7, .int .i64 b)] ⟨rfl, trivial⟩ (by kernel_rfl)
    exact ovr hAp rfl (r_move (hAp.get rfl)) fun _ => Eq.refl _
   ·intro a w hT
    have hAp := hT.ag g [] trivial (by kernel_rfl)
    have bm : a.tmps.getD 21 undef = Sl.v d := hT.vals 1 rfl 21 rfl
    have hAp := hAp.add bm
    have bn : a.tmps.getD 22 undef = .int .i64 b := hT.vals 2 rfl 22 rfl
    have hAp := hAp.add bn
    exact ovr hAp rfl (r_indexAddr (hAp.get rfl) (hAp.get rfl) Try.underlying27 ti_29 aI.1 aI.2) fun _ => Eq.refl _
   ·intro a w hT
    have hAp := hT.ag g [] trivial (by kernel_rfl)
    have bo : a.tmps.getD 23 undef = .pointer (some (af.add (b.toNat * 5))) := hT.vals 3 rfl 23 rfl
    have hAp := hAp.add bo
    exact ovr hAp rfl (r_loadN Try.underlying29 rfl ti_29 (hAp.get rfl) (bi.ext hT.chg)) fun _ => Eq.refl _
   ·intro a w hT
    have hAp := hT.ag g [(3, .pointer (some (⟨c, 0, none⟩ : Addr)))] ⟨rfl, trivial⟩ (by kernel_rfl)
    exact ovr hAp rfl (r_fieldAddr (hAp.get rfl) Try.underlying29 rfl ti_3 (by decide)) fun _ => Eq.refl _
   ·intro a w hT
    have hAp := hT.ag g [] trivial (by kernel_rfl)
    have bp : a.tmps.getD 25 undef = .pointer (some (⟨c, 0, none⟩ : Addr)) := hT.vals 5 rfl 25 rfl
    have hAp := hAp.add bp
    exact ovr hAp rfl (r_load1 Try.underlying3 rfl (hAp.get rfl) ((an.ext hT.chg).cell 0 _ rfl)) fun _ => Eq.refl _
   ·intro a w hT
    have hAp := hT.ag g [] trivial (by kernel_rfl)
    have bq : a.tmps.getD 26 undef = .int .i64 f := hT.vals 6 rfl 26 rfl
    have hAp := hAp.add bq
    exact ovr hAp rfl (r_eql (hAp.get rfl) rfl) fun _ => Eq.refl _
   ·intro a w hT
    have hAp := hT.ag g [] trivial (by kernel_rfl)
    have br : a.tmps.getD 24 undef = .agg #[.int .i64 u, .string (Bs x), .string (Bs y), Sl.v z, Sl.v aa] := hT.vals 4 rfl 24 rfl
    have hAp := hAp.add br
    have bs : a.tmps.getD 27 undef = .bool (decide (f = 1)) := hT.vals 7 rfl 27 rfl
    have hAp := hAp.add bs
    exact opk_callX hAp rfl (r_call (args := #[.agg #[.int .i64 u, .string (Bs x), .string (Bs y), Sl.v z, Sl.v aa], .bool false, .bool (decide (f = 1))]) Try.func71 (by decide) rfl (map_arr (ml_cons (hAp.get rfl) (ml_cons rfl (ml_cons (hAp.get rfl) ml_nil)))) rfl) (bk w hT.chg) fun _ _ _ _ e hR => ⟨_, e, hR.1, fun _ => hR.2⟩
   ·intro a w hT
    have hAp := hT.ag g [] trivial (by kernel_rfl)
    have bt : a.tmps.getD 28 undef = .bool o := hT.vals 8 rfl 28 rfl
    have hAp := hAp.add bt
    exact ovr hAp rfl (r_not (hAp.get rfl)) fun _ => Eq.refl _
   ·intro bu i aK bv bx
    have bz := bv [(3, .pointer (some (⟨c, 0, none⟩ : Addr))), (7, .int .i64 b)] ⟨rfl, rfl, trivial⟩ (by kernel_rfl)
    have bA : bu.tmps.getD 29 undef = .bool (!o) := bx 9 rfl 29 rfl
    have bB := bz.add bA
    have bC := an.ext aK
    have aL : Chg [] m i := aK
    refine PR_end (by kernel_rfl) ?_
    have ak := bB.keep [(3, .pointer (some (⟨c, 0, none⟩ : Addr))), (7, .int .i64 b), (29, .bool (!o))] ⟨rfl, rfl, rfl, trivial⟩
    refine then_normal ?_
    refine wp_cond_split (ak.get rfl) (fun hc => ?_) (fun hc => ?_)
    ·have bD := aJ.1 (b_not_t hc)
     clear hc
     refine wp_seq (wp_region_lit ?_)
     refine sqv ak rfl (r_assign rfl) fun _ bF => ?_
     refine sq_end ?_
     have aM := bF.keep [(6, .bool false)] ⟨rfl, trivial⟩
     refine then_normal ?_
     refine wp_ret ?_
     refine block_ret ?_
     refine then_ret ?_
     refine then_ret ?_
     refine block_ret ?_
     refine then_ret ?_
     have bG := bD i    aL
     exact res_all (vs := [.bool false]) rfl aM ⟨res_of_tmp aM rfl, trivial⟩ bG
    ·have bH := aJ.2 (b_not_f hc)
     clear hc
     refine wp_skip ?_
     refine block_normal ?_
     refine then_normal (wp_region_lit ?_)
     refine sqv ak rfl (r_move (ak.get rfl)) fun _ aN => ?_
     obtain ⟨bI, bJ⟩ := bH
     refine sqv aN rfl (r_addI (aN.get rfl) rfl bI) fun _ aO => ?_
     refine sqv aO rfl (r_assign (aO.get rfl)) fun _ bK => ?_
     refine sq_end ?_
     have bL := bK.keep [(3, .pointer (some (⟨c, 0, none⟩ : Addr))), (7, .int .i64 (b + 1))] ⟨rfl, rfl, trivial⟩
     have aP := bJ i    aL
     have bM := bL.keep [(3, .pointer (some (⟨c, 0, none⟩ : Addr))), (7, .int .i64 (b + 1))] ⟨rfl, rfl, trivial⟩
     exact then_normal ⟨(b + 1, i), ⟨bM, bC, rfl, aP.1⟩, aP.2⟩
  ·have bN := aC.2 (of_decide_eq_false hc)
   clear hc
   refine wp_exit ?_
   refine then_exit ?_
   refine then_exit ?_
   refine block_hit ?_
   have bO := g.keep [] trivial
   refine then_normal (wp_seq (wp_region_lit ?_))
   refine sqv bO rfl (r_assign rfl) fun _ bP => ?_
   refine sq_end ?_
   have aQ := bP.keep [(6, .bool true)] ⟨rfl, trivial⟩
   refine then_normal ?_
   refine wp_ret ?_
   exact res_all (vs := [.bool true]) rfl aQ ⟨res_of_tmp aQ rfl, trivial⟩ bN
end Go.Proofs.Ytghmgfkdnolcdaa
