/-
  PRINTED BY PROGRAM: for each function its condition (vc), and that this suffices (ok).
-/
import Derived.Test.YtghmgfkdnolcdaaQApplyNoneGT
namespace Go.Proofs.Ytghmgfkdnolcdaa
open Go.RowKit
set_option linter.unusedVariables false
set_option maxHeartbeats 1000000
set_option maxRecDepth 10000
def dom_Dom_Within.vc (b : Addr) (c : Int) (i : Int) (R : Value → World → Prop) (w : World) : Prop :=
∃ (l : Int → World → Prop) (p : Int → World → Nat),
l i w ∧
(∀ (d : Int) (m : World), l d m →
CallK Try.prog 23 #[.pointer (some b), .int .i64 c] m [] (fun v n => ∃ (f : Bool), v = .bool f ∧
∃ (o : Bool), (((f = true)) → Calls Try.prog 23 #[.pointer (some b), .int .i64 d] n (Ret fun v w' => Ext n w' ∧ v = .bool o)) ∧
(∀ j : World, Ext n j →
(((f = true) ∧ (o = true)) →
((d = c) →
R (.bool true) j) ∧
((¬ (d = c)) →
CallK Try.prog 33 #[.pointer (some b), .int .i64 d] j [] (fun v q => ∃ (k : Int), v = .int .i64 k ∧
l k q ∧ p k q < p d m))) ∧
(((f = false) ∨ (o = false)) →
R (.bool false) j))))
theorem dom_Dom_Within.ok (b : Addr) (c : Int) (i : Int) {R : Value → World → Prop} {w : World} (ab : dom_Dom_Within.vc b c i R w) : Calls Try.prog 59 #[.pointer (some b), .int .i64 c, .int .i64 i] w (Ret R) := by
 refine enter [.pointer (some b), .int .i64 c, .int .i64 i] Try.func59 rfl Try.ntmps59 rfl ?_
 intro a0 au
 unfold dom_Dom_Within.vc at ab
 refine wp_seq (wp_region_lit ?_)
 refine sqv au rfl (r_assign rfl) fun _ av => ?_
 refine sq_end ?_
 have ax := av.keep [(0, .pointer (some b)), (1, .int .i64 c), (2, .int .i64 i)] ⟨rfl, rfl, rfl, trivial⟩
 refine then_normal (wp_seq (wp_block ?_))
 obtain ⟨l, p, ay, az⟩ := ab
 refine wp_loop_st (σ := Int × World) (fun s a w => Ag 21 a [(0, .pointer (some b)), (1, .int .i64 c), (2, .int .i64 s.1)] ∧ w = s.2 ∧ l s.1 s.2) (fun s => p s.1 s.2) (i, w) ⟨ax.keep [(0, .pointer (some b)), (1, .int .i64 c), (2, .int .i64 i)] ⟨rfl, rfl, rfl, trivial⟩, rfl, ay⟩ ?_
 rintro ⟨d, m⟩ aU w_ ⟨ad, hw_, aA⟩
 have hw_ : m = w_ := hw_.symm
 subst hw_
 have aB := az d _ aA
 refine wp_seq (wp_seq (wp_region_lit ?_))
 refine sqv ad rfl (r_move (ad.get rfl)) fun _ af => ?_
 refine sqv af rfl (r_move (af.get rfl)) fun _ u => ?_
 refine sq (opk_call u rfl (r_call (args := #[.pointer (some b), .int .i64 c]) Try.func23 (by decide) rfl (map_arr (ml_cons (u.get rfl) (ml_cons (u.get rfl) ml_nil))) rfl) aB fun aV aX n ag _ aY aZ aC => ?_)
 obtain ⟨f, rfl, aD⟩ := aC
 refine sqv ag rfl (r_move (ag.get rfl)) fun _ ah => ?_
 refine sq (opk_gval ah rfl rfl (g := true) (e := f) rfl (fun hg => r_move (ah.get rfl)) fun a1 ai _ => ?_)
 refine sq (opk_gval ai rfl rfl (g := true) (e := f) rfl (fun hg => r_move (ai.get rfl)) fun a2 x _ => ?_)
 obtain ⟨o, aF, aG⟩ := aD
 refine sq (opk_gcall x rfl rfl (g := true) (e := f) rfl (fun hg => r_call (args := #[.pointer (some b), .int .i64 d]) Try.func23 (by decide) rfl (map_arr (ml_cons (cv_get (x.get rfl) hg) (ml_cons (cv_get (x.get rfl) hg) ml_nil))) rfl) (fun hg => aF (g_t hg)) fun a3 j y _ aj => ?_)
 have a4 : Chg [] n j := aj
 have ak := aG j aj
 refine sqv y rfl (r_pick_and (g := (true && (f == true))) (y.get rfl) (y.get rfl) (fun he => g_mkt rfl he)) fun _ aH => ?_
 refine sq_end ?_
 have r := aH.keep [(0, .pointer (some b)), (1, .int .i64 c), (2, .int .i64 d), (14, .bool (f && o))] ⟨rfl, rfl, rfl, rfl, trivial⟩
 refine then_normal ?_
 refine wp_cond_split (r.get rfl) (fun hc => ?_) (fun hc => ?_)
 ·have al := ak.1 ⟨(b_and_t hc).1, (b_and_t hc).2⟩
  clear hc
  refine wp_skip ?_
  refine then_normal (wp_block (wp_seq (wp_seq (wp_region_lit ?_))))
  refine sqv r rfl (r_move (r.get rfl)) fun _ am => ?_
  refine sqv am rfl (r_move (am.get rfl)) fun _ z => ?_
  refine sqv z rfl (r_eql (z.get rfl) (z.get rfl)) fun _ aI => ?_
  refine sq_end ?_
  have t := aI.keep [(0, .pointer (some b)), (1, .int .i64 c), (2, .int .i64 d), (17, .bool (decide (d = c)))] ⟨rfl, rfl, rfl, rfl, trivial⟩
  refine then_normal ?_
  refine wp_cond_split (t.get rfl) (fun hc => ?_) (fun hc => ?_)
  ·have aJ := al.1 (of_decide_eq_true hc)
   clear hc
   refine wp_seq (wp_region_lit ?_)
   refine sqv t rfl (r_assign rfl) fun _ aK => ?_
   refine sq_end ?_
   have an := aK.keep [(6, .bool true)] ⟨rfl, trivial⟩
   refine then_normal ?_
   refine wp_ret ?_
   refine then_ret ?_
   refine block_ret ?_
   refine then_ret ?_
   refine block_ret ?_
   refine then_ret ?_
   exact res_all (vs := [.bool true]) rfl an ⟨res_of_tmp an rfl, trivial⟩ aJ
  ·have aL := al.2 (of_decide_eq_false hc)
   clear hc
   refine wp_skip ?_
   refine then_normal (wp_region_lit ?_)
   refine sqv t rfl (r_move (t.get rfl)) fun _ ao => ?_
   refine sqv ao rfl (r_move (ao.get rfl)) fun _ aa => ?_
   refine sq (opk_call aa rfl (r_call (args := #[.pointer (some b), .int .i64 d]) Try.func33 (by decide) rfl (map_arr (ml_cons (aa.get rfl) (ml_cons (aa.get rfl) ml_nil))) rfl) aL fun a5 a6 q ap _ a7 a8 aM => ?_)
   obtain ⟨k, rfl, aq⟩ := aM
   refine sqv ap rfl (r_assign (ap.get rfl)) fun _ aN => ?_
   refine sq_end ?_
   have aO := aN.keep [(0, .pointer (some b)), (1, .int .i64 c), (2, .int .i64 k)] ⟨rfl, rfl, rfl, trivial⟩
   refine block_normal ?_
   have aP := aO.keep [(0, .pointer (some b)), (1, .int .i64 c), (2, .int .i64 k)] ⟨rfl, rfl, rfl, trivial⟩
   exact then_normal ⟨(k, q), ⟨aP, rfl, aq.1⟩, aq.2⟩
 ·have aQ := ak.2 ((b_and_f hc).imp (fun h => h) (fun h => h))
  clear hc
  refine wp_exit ?_
  refine then_exit ?_
  refine then_exit ?_
  refine block_hit ?_
  have aR := r.keep [] trivial
  refine then_normal (wp_seq (wp_region_lit ?_))
  refine sqv aR rfl (r_assign rfl) fun _ aS => ?_
  refine sq_end ?_
  have ar := aS.keep [(6, .bool false)] ⟨rfl, trivial⟩
  refine then_normal ?_
  refine wp_ret ?_
  exact res_all (vs := [.bool false]) rfl ar ⟨res_of_tmp ar rfl, trivial⟩ aQ
def dom_Dom_height.vc (d : Addr) (g : Int) (R : Value → World → Prop) (w : World) : Prop :=
CallK Try.prog 45 #[.pointer (some d), .int .i64 g] w [] (fun v m => ∃ (q : Option Addr), v = .pointer q ∧
∃ r : Addr, (q = some r) ∧
∃ (b : Sl), (m.cell? (r.add 7) = some (Sl.v b)) ∧
∃ (j : Int → Int → World → Prop) (o : Int → Int → World → Nat),
j 0 0 m ∧
(∀ (f : Int) (c : Int) (i : World), j f c i →
((c < (b.n : Int)) →
((0 : Int) ≤ c ∧ c < (b.n : Int)) ∧ ∃ t : Addr, b.a = some t ∧
∃ (k : Int), (i.cell? (t.add (c.toNat * 1)) = some (.int .i64 k)) ∧
CallK Try.prog 60 #[.pointer (some d), .int .i64 k] i [] (fun v p => ∃ (h : Int), v = .int .i64 h ∧
(I64 (c + 1)) ∧
j (max f h) (c + 1) p ∧ o (max f h) (c + 1) p < o f c i)) ∧
((¬ (c < (b.n : Int))) →
(I64 (f + 1)) ∧
R (.int .i64 (f + 1)) i)))
theorem dom_Dom_height.ok (d : Addr) (g : Int) {R : Value → World → Prop} {w : World} (aa : dom_Dom_height.vc d g R w) : Calls Try.prog 60 #[.pointer (some d), .int .i64 g] w (Ret R) := by
 refine enter [.pointer (some d), .int .i64 g] Try.func60 rfl Try.ntmps60 rfl ?_
 intro a0 aA
 unfold dom_Dom_height.vc at aa
 refine wp_seq (wp_region_lit ?_)
 refine sqv aA rfl (r_assign rfl) fun _ aB => ?_
 refine sq_end ?_
 have aC := aB.keep [(0, .pointer (some d)), (1, .int .i64 g)] ⟨rfl, rfl, trivial⟩
 refine then_normal (wp_seq (wp_region_lit ?_))
 refine sqv aC rfl (r_assign rfl) fun _ aD => ?_
 refine sq_end ?_
 have ab := aD.keep [(0, .pointer (some d)), (1, .int .i64 g), (5, .int .i64 0)] ⟨rfl, rfl, rfl, trivial⟩
 refine then_normal (wp_seq (wp_seq (wp_region_lit ?_)))
 refine sqv ab rfl (r_move (ab.get rfl)) fun _ ad => ?_
 refine sqv ad rfl (r_move (ad.get rfl)) fun _ u => ?_
 refine sq (opk_call u rfl (r_call (args := #[.pointer (some d), .int .i64 g]) Try.func45 (by decide) rfl (map_arr (ml_cons (u.get rfl) (ml_cons (u.get rfl) ml_nil))) rfl) aa fun bd bf m af _ bg bh aF => ?_)
 obtain ⟨q, rfl, aG⟩ := aF
 obtain ⟨r, aH, aI⟩ := aG
 refine sqv af rfl (r_nilCheckP (((af.get rfl)).trans (congrArg Value.pointer aH))) fun _ ag => ?_
 refine sqv ag rfl (r_fieldAddr (ag.get rfl) Try.underlying76 rfl ti_36 (by decide)) fun _ ah => ?_
 obtain ⟨b, aJ, aK⟩ := aI
 refine sqv ah rfl (r_load1 Try.underlying36 rfl (ah.get rfl) aJ) fun _ ai => ?_
 refine sqv ai rfl (r_len (ai.get rfl) Try.underlying36) fun _ aL => ?_
 refine sqv aL rfl (r_move rfl) fun _ aM => ?_
 refine sq_end ?_
 have aN := aM.keep [(0, .pointer (some d)), (5, .int .i64 0), (13, Sl.v b), (14, .int .i64 (b.n : Int)), (15, .int .i64 0)] ⟨rfl, rfl, rfl, rfl, rfl, trivial⟩
 refine then_normal (wp_block ?_)
 obtain ⟨j, o, aO, aP⟩ := aK
 refine wp_loop_st (σ := Int × Int × World) (fun s a w => Ag 27 a [(0, .pointer (some d)), (5, .int .i64 s.1), (13, Sl.v b), (14, .int .i64 (b.n : Int)), (15, .int .i64 s.2.1)] ∧ w = s.2.2 ∧ j s.1 s.2.1 s.2.2) (fun s => o s.1 s.2.1 s.2.2) (0, 0, m) ⟨aN.keep [(0, .pointer (some d)), (5, .int .i64 0), (13, Sl.v b), (14, .int .i64 (b.n : Int)), (15, .int .i64 0)] ⟨rfl, rfl, rfl, rfl, rfl, trivial⟩, rfl, aO⟩ ?_
 rintro ⟨f, c, i⟩ bi w_ ⟨x, hw_, aQ⟩
 have hw_ : i = w_ := hw_.symm
 subst hw_
 have aj := aP f c _ aQ
 refine wp_seq (wp_region_lit ?_)
 refine sqv x rfl (r_lss (x.get rfl) (x.get rfl)) fun _ aR => ?_
 refine sq_end ?_
 have l := aR.keep [(0, .pointer (some d)), (5, .int .i64 f), (13, Sl.v b), (14, .int .i64 (b.n : Int)), (15, .int .i64 c), (16, .bool (decide (c < (b.n : Int))))] ⟨rfl, rfl, rfl, rfl, rfl, rfl, trivial⟩
 refine then_normal (wp_seq ?_)
 refine wp_cond_split (l.get rfl) (fun hc => ?_) (fun hc => ?_)
 ·have aS := aj.1 (of_decide_eq_true hc)
  clear hc
  refine wp_skip ?_
  refine then_normal (wp_seq (wp_block (wp_seq (wp_region_lit ?_))))
  obtain ⟨aT, t, aU, aV⟩ := aS
  refine sqv l rfl (r_indexAddr (l.get rfl) (l.get rfl) Try.underlying36 ti_3 aT aU) fun _ ak => ?_
  obtain ⟨k, aX, aY⟩ := aV
  refine sqv ak rfl (r_load1 Try.underlying3 rfl (ak.get rfl) aX) fun _ al => ?_
  refine sqv al rfl (r_assign (al.get rfl)) fun _ aZ => ?_
  refine sq_end ?_
  have am := aZ.keep [(0, .pointer (some d)), (5, .int .i64 f), (7, .int .i64 k), (13, Sl.v b), (14, .int .i64 (b.n : Int)), (15, .int .i64 c)] ⟨rfl, rfl, rfl, rfl, rfl, rfl, trivial⟩
  refine then_normal (wp_region_lit ?_)
  refine sqv am rfl (r_move (am.get rfl)) fun _ an => ?_
  refine sqv an rfl (r_move (an.get rfl)) fun _ ao => ?_
  refine sqv ao rfl (r_move (ao.get rfl)) fun _ y => ?_
  refine sq (opk_call y rfl (r_call (args := #[.pointer (some d), .int .i64 k]) Try.func60 (by decide) rfl (map_arr (ml_cons (y.get rfl) (ml_cons (y.get rfl) ml_nil))) rfl) aY fun bj bk p z _ bl bm hK98 => ?_)
  obtain ⟨h, rfl, a1⟩ := hK98
  refine sqv z rfl (r_max (z.get rfl) (z.get rfl)) fun _ ap => ?_
  refine sqv ap rfl (r_assign (ap.get rfl)) fun _ a2 => ?_
  refine sq_end ?_
  have aq := a2.keep [(0, .pointer (some d)), (5, .int .i64 (max f h)), (13, Sl.v b), (14, .int .i64 (b.n : Int)), (15, .int .i64 c)] ⟨rfl, rfl, rfl, rfl, rfl, trivial⟩
  refine block_normal ?_
  refine then_normal (wp_region_lit ?_)
  obtain ⟨a3, ar⟩ := a1
  refine sqv aq rfl (r_addI (aq.get rfl) rfl a3) fun _ au => ?_
  refine sqv au rfl (r_move (au.get rfl)) fun _ a4 => ?_
  refine sq_end ?_
  have a5 := a4.keep [(0, .pointer (some d)), (5, .int .i64 (max f h)), (13, Sl.v b), (14, .int .i64 (b.n : Int)), (15, .int .i64 (c + 1))] ⟨rfl, rfl, rfl, rfl, rfl, trivial⟩
  have a6 := a5.keep [(0, .pointer (some d)), (5, .int .i64 (max f h)), (13, Sl.v b), (14, .int .i64 (b.n : Int)), (15, .int .i64 (c + 1))] ⟨rfl, rfl, rfl, rfl, rfl, trivial⟩
  exact then_normal ⟨(max f h, c + 1, p), ⟨a6, rfl, ar.1⟩, ar.2⟩
 ·have a7 := aj.2 (of_decide_eq_false hc)
  clear hc
  refine wp_exit ?_
  refine then_exit ?_
  refine then_exit ?_
  refine block_hit ?_
  have av := l.keep [(5, .int .i64 f)] ⟨rfl, trivial⟩
  refine then_normal (wp_seq (wp_region_lit ?_))
  refine sqv av rfl (r_move (av.get rfl)) fun _ ax => ?_
  obtain ⟨a8, a9⟩ := a7
  refine sqv ax rfl (r_addI (ax.get rfl) rfl a8) fun _ ay => ?_
  refine sqv ay rfl (r_assign (ay.get rfl)) fun _ ba => ?_
  refine sq_end ?_
  have az := ba.keep [(4, .int .i64 (f + 1))] ⟨rfl, trivial⟩
  refine then_normal ?_
  refine wp_ret ?_
  exact res_all (vs := [.int .i64 (f + 1)]) rfl az ⟨res_of_tmp az rfl, trivial⟩ a9
def dom_node_attr_1.vc (a : Str) (f : Str) (b : Str) (R : Value → World → Prop) (w : World) : Prop :=
∀ (c : World) (d : Nat), New w d c → Chg [] w c →
CallK Try.prog 78 #[.string (Bs a), .string (Bs b)] c [d] (fun v i => ∃ (g : Int), v = .int .i64 g ∧
R (.int .i64 g) i)
theorem dom_node_attr_1.ok (a : Str) (f : Str) (b : Str) {R : Value → World → Prop} {w : World} (j : dom_node_attr_1.vc a f b R w) : Calls Try.prog 77 #[.agg #[.string (Bs a), .string (Bs f)], .string (Bs b)] w (Ret R) := by
 refine enter [.agg #[.string (Bs a), .string (Bs f)], .string (Bs b)] Try.func77 rfl Try.ntmps77 rfl ?_
 intro a0 k
 unfold dom_node_attr_1.vc at j
 refine wp_seq (wp_region_lit ?_)
 refine sq (opk_new (fun B => .pointer (some ⟨B, 0, none⟩)) k rfl (r_box (cs := [.string (Bs a), .string (Bs f)]) (k.get rfl) rfl) fun a5 c d r s l t _ => ?_)
 have u : New w d c := s
 have x : Chg [] w c := r
 refine sqv t rfl (r_assign rfl) fun _ y => ?_
 refine sq_end ?_
 have m := y.keep [(1, .string (Bs b)), (2, .pointer (some (⟨d, 0, none⟩ : Addr)))] ⟨rfl, rfl, trivial⟩
 refine then_normal (wp_seq (wp_region_lit ?_))
 refine sqv m rfl (r_fieldAddr (m.get rfl) Try.underlying65 rfl ti_9 (by decide)) fun _ n => ?_
 refine sqv n rfl (r_load1 Try.underlying9 rfl (n.get rfl) (l.cell 0 _ rfl)) fun _ o => ?_
 refine sqv o rfl (r_move (o.get rfl)) fun _ h => ?_
 have z := j c d u  x
 refine sq (opk_call h rfl (r_call (args := #[.string (Bs a), .string (Bs b)]) Try.func78 (by decide) rfl (map_arr (ml_cons (h.get rfl) (ml_cons (h.get rfl) ml_nil))) rfl) z fun ai aj i p _ aa ak ab => ?_)
 obtain ⟨g, rfl, ad⟩ := ab
 have al := l.kept aa (.head _)
 refine sqv p rfl (r_assign (p.get rfl)) fun _ af => ?_
 refine sq_end ?_
 have q := af.keep [(4, .int .i64 g)] ⟨rfl, trivial⟩
 refine then_normal ?_
 refine wp_ret ?_
 exact res_all (vs := [.int .i64 g]) rfl q ⟨res_of_tmp q rfl, trivial⟩ ad
def dom_Dom_out_1.vc (a : Int) (b : Addr) (R : Value → World → Prop) (w : World) : Prop :=
∃ (c : Int), (w.cell? b = some (.int .i64 c)) ∧
R (.bool (decide (a = c))) w
theorem dom_Dom_out_1.ok (a : Int) (b : Addr) {R : Value → World → Prop} {w : World} (f : dom_Dom_out_1.vc a b R w) : Calls Try.prog 82 #[.int .i64 a, .pointer (some b)] w (Ret R) := by
 refine enter [.int .i64 a, .pointer (some b)] Try.func82 rfl Try.ntmps82 rfl ?_
 intro p k
 unfold dom_Dom_out_1.vc at f
 refine wp_seq (wp_region_lit ?_)
 refine sqv k rfl (r_assign rfl) fun _ l => ?_
 refine sq_end ?_
 have g := l.keep [(0, .int .i64 a), (1, .pointer (some b))] ⟨rfl, rfl, trivial⟩
 refine then_normal (wp_seq (wp_region_lit ?_))
 refine sqv g rfl (r_move (g.get rfl)) fun _ h => ?_
 obtain ⟨c, m, n⟩ := f
 refine sqv h rfl (r_load1 Try.underlying3 rfl (h.get rfl) m) fun _ d => ?_
 refine sqv d rfl (r_eql (d.get rfl) (d.get rfl)) fun _ i => ?_
 refine sqv i rfl (r_assign (i.get rfl)) fun _ o => ?_
 refine sq_end ?_
 have j := o.keep [(3, .bool (decide (a = c)))] ⟨rfl, trivial⟩
 refine then_normal ?_
 refine wp_ret ?_
 exact res_all (vs := [.bool (decide (a = c))]) rfl j ⟨res_of_tmp j rfl, trivial⟩ n
end Go.Proofs.Ytghmgfkdnolcdaa
