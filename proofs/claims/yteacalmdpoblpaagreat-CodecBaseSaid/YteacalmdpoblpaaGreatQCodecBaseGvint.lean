/-
  PRINTED BY PROGRAM: for each function its condition (vc), and that this suffices (ok).
-/
import Derived.Test.YteacalmdpoblpaaGreatQCodecBaseGT
namespace Go.Proofs.YteacalmdpoblpaaGreat
open Go.RowKit
set_option linter.unusedVariables false
set_option maxHeartbeats 1000000
set_option maxRecDepth 10000
def vint_Put.vc (b : Sl) (g : Int) (R : Value → World → Prop) (w : World) : Prop :=
((0 : Int) ≤ (b.n : Int) ∧ ((b.n : Int) : Int) ≤ (b.n : Int) ∧ (b.n : Int) ≤ (b.c : Int)) ∧
∃ (o : Sl → Int → World → Prop) (q : Sl → Int → World → Nat),
o (Sl.cut b 1 0 (b.n : Int).toNat (b.n : Int).toNat) g w ∧
(∀ (h : Sl) (d : Int) (f : World), o h d f →
((128 ≤ d) →
∀ (i : World) (l : Nat), New f l i → Chg [] f i →
∀ (_ : Box i l 5 [.int .u8 (bits .or .u8 (IntKind.u8.wrap d) 128)]),
RunK Tryz.prog (Builtin.append_ #[27, 27] 27 #[Sl.v h, Sl.v (Sl.mk (some ⟨l, 0, none⟩) 1 1)]) i [] (fun v r => ∃ (j : Sl), v = Sl.v j ∧
o j (d / 2 ^ 7) r ∧ q j (d / 2 ^ 7) r < q h d f)) ∧
((¬ (128 ≤ d)) →
∀ (k : World) (m : Nat), New f m k → Chg [] f k →
∀ (_ : Box k m 5 [.int .u8 (IntKind.u8.wrap d)]),
RunK Tryz.prog (Builtin.append_ #[27, 27] 27 #[Sl.v h, Sl.v (Sl.mk (some ⟨m, 0, none⟩) 1 1)]) k [] (fun v z => ∃ (p : Sl), v = Sl.v p ∧
R (Sl.v p) z)))
theorem vint_Put.ok (b : Sl) (g : Int) {R : Value → World → Prop} {w : World} (aa : vint_Put.vc b g R w) : Calls Tryz.prog 27 #[Sl.v b, .int .u64 g] w (Ret R) := by
 refine enter [Sl.v b, .int .u64 g] Tryz.func27 rfl Tryz.ntmps27 rfl ?_
 intro a0 aF
 unfold vint_Put.vc at aa
 refine wp_seq (wp_region_lit ?_)
 refine sqv aF rfl (r_assign rfl) fun _ aG => sq_end ?_
 have ab := aG.kp [(0, Sl.v b), (1, .int .u64 g)] rfl
 refine then_normal (wp_seq (wp_region_lit ?_))
 refine sqv ab rfl (r_move (ab.get rfl)) fun _ ad => sqv ad rfl (r_move (ad.get rfl)) fun _ af => sqv af rfl (r_len (af.get rfl) tU27) fun _ ag => sqv ag rfl (r_move (ag.get rfl)) fun _ ah => sqv ah rfl (r_len (ah.get rfl) tU27) fun _ t => ?_
 obtain ⟨aH, aI⟩ := aa
 refine sqv t rfl (r_slice3H (t.get rfl) (t.get rfl) (t.get rfl) tU27 ti_5 aH) fun _ ai => sqv ai rfl (r_assign (ai.get rfl)) fun _ aJ => sq_end ?_
 have aK := aJ.kp [(0, Sl.v (Sl.cut b 1 0 (b.n : Int).toNat (b.n : Int).toNat)), (1, .int .u64 g)] rfl
 refine then_normal (wp_seq (wp_block ?_))
 obtain ⟨o, q, aL, aM⟩ := aI
 refine wp_loop_st (σ := Sl × Int × World) (fun s a w => Ag 26 a [(0, Sl.v s.1), (1, .int .u64 s.2.1)] ∧ w = s.2.2 ∧ o s.1 s.2.1 s.2.2) (fun s => q s.1 s.2.1 s.2.2) (Sl.cut b 1 0 (b.n : Int).toNat (b.n : Int).toNat, g, w) ⟨aK.kp [(0, Sl.v (Sl.cut b 1 0 (b.n : Int).toNat (b.n : Int).toNat)), (1, .int .u64 g)] rfl, rfl, aL⟩ ?_
 rintro ⟨h, d, f⟩ bh w_ ⟨aj, hw_, aN⟩
 have hw_ : f = w_ := hw_.symm
 subst hw_
 have ak := aM h d _ aN
 refine wp_seq (wp_seq (wp_region_lit ?_))
 refine sqv aj rfl (r_move (aj.get rfl)) fun _ al => sqv al rfl (r_geq (al.get rfl) rfl) fun _ aO => sq_end ?_
 have u := aO.kp [(0, Sl.v h), (1, .int .u64 d), (12, .bool (decide (128 ≤ d)))] rfl
 refine then_normal ?_
 refine wp_cond_split (u.get rfl) (fun hc => ?_) (fun hc => ?_)
 ·have aP := ak.1 (of_decide_eq_true hc)
  clear hc
  refine wp_skip ?_
  refine then_normal (wp_block (wp_seq (wp_region_lit ?_)))
  refine sqv u rfl (r_move (u.get rfl)) fun _ am => sqv am rfl (r_move (am.get rfl)) fun _ an => sqv an rfl (r_conv (an.get rfl) rfl tU5) fun _ ao => sqv ao rfl (r_bor (ao.get rfl) rfl) fun _ ap => ?_
  refine sq (opk_new (fun B => .slice (some ⟨B, 0, none⟩) 1 1) ap rfl (r_buildSlice (vs := #[(0, .int .u8 (bits .or .u8 (IntKind.u8.wrap d) 128))]) (cs := [.int .u8 (bits .or .u8 (IntKind.u8.wrap d) 128)]) (map_arr2 (ml2_cons (ap.get rfl) (ml2_nil))) tU27 ti_5 rfl rfl (by kernel_rfl)) fun bi i l aQ aR aS x _ => ?_)
  have aT : New f l i := aR
  have aU : Chg [] f i := aQ
  have aV := aP i l aT  aU
  have aX := aV aS
  refine sq (opk_run x rfl (fun _ _ hr => r_append (x.get rfl) (x.get rfl) hr) aX fun bj bk r aq _ bl bm aY => ?_)
  obtain ⟨j, rfl, ar⟩ := aY
  refine sqv aq rfl (r_assign (aq.get rfl)) fun _ aZ => sq_end ?_
  have au := aZ.kp [(0, Sl.v j), (1, .int .u64 d)] rfl
  refine then_normal (wp_region_lit ?_)
  refine sqv au rfl (r_move (au.get rfl)) fun _ av => sqv av rfl (r_shr (av.get rfl) rfl (by decide) (by decide)) fun _ ax => sqv ax rfl (r_assign (ax.get rfl)) fun _ hA90 => sq_end ?_
  have a1 := hA90.kp [(0, Sl.v j), (1, .int .u64 (d / 2 ^ 7))] rfl
  refine block_normal ?_
  have a2 := a1.kp [(0, Sl.v j), (1, .int .u64 (d / 2 ^ 7))] rfl
  exact then_normal ⟨(j, d / 2 ^ 7, r), ⟨a2, rfl, ar.1⟩, ar.2⟩
 ·have a3 := ak.2 (of_decide_eq_false hc)
  clear hc
  refine wp_exit ?_
  refine then_exit ?_
  refine then_exit ?_
  refine block_hit ?_
  have ay := u.kp [(0, Sl.v h), (1, .int .u64 d)] rfl
  refine then_normal (wp_seq (wp_region_lit ?_))
  refine sqv ay rfl (r_move (ay.get rfl)) fun _ az => sqv az rfl (r_move (az.get rfl)) fun _ aA => sqv aA rfl (r_conv (aA.get rfl) rfl tU5) fun _ aB => ?_
  refine sq (opk_new (fun B => .slice (some ⟨B, 0, none⟩) 1 1) aB rfl (r_buildSlice (vs := #[(0, .int .u8 (IntKind.u8.wrap d))]) (cs := [.int .u8 (IntKind.u8.wrap d)]) (map_arr2 (ml2_cons (aB.get rfl) (ml2_nil))) tU27 ti_5 rfl rfl (by kernel_rfl)) fun bn k m a4 a5 a6 y _ => ?_)
  have a7 : New f m k := a5
  have a8 : Chg [] f k := a4
  have a9 := a3 k m a7  a8
  have ba := a9 a6
  refine sq (opk_run y rfl (fun _ _ hr => r_append (y.get rfl) (y.get rfl) hr) ba fun bo bp z aC _ bq br bb => ?_)
  obtain ⟨p, rfl, bd⟩ := bb
  refine sqv aC rfl (r_assign (aC.get rfl)) fun _ bf => sq_end ?_
  have aD := bf.kp [(4, Sl.v p)] rfl
  refine then_normal ?_
  refine wp_ret ?_
  exact res_all (vs := [Sl.v p]) rfl aD ⟨res_of_tmp aD rfl, trivial⟩ bd
def vint_PutText.vc (b : Sl) (a : Str) (R : Value → World → Prop) (w : World) : Prop :=
CallK Tryz.prog 27 #[Sl.v b, .int .u64 (IntKind.u64.wrap (a.length : Int))] w [] (fun v h => ∃ (d : Sl), v = Sl.v d ∧
RunK Tryz.prog (Builtin.append_ #[27, 9] 27 #[Sl.v d, .string (Bs a)]) h [] (fun v i => ∃ (c : Sl), v = Sl.v c ∧
R (Sl.v c) i))
theorem vint_PutText.ok (b : Sl) (a : Str) {R : Value → World → Prop} {w : World} (j : vint_PutText.vc b a R w) : Calls Tryz.prog 28 #[Sl.v b, .string (Bs a)] w (Ret R) := by
 refine enter [Sl.v b, .string (Bs a)] Tryz.func28 rfl Tryz.ntmps28 rfl ?_
 intro a0 r
 unfold vint_PutText.vc at j
 refine wp_seq (wp_region_lit ?_)
 refine sqv r rfl (r_assign rfl) fun _ s => sq_end ?_
 have k := s.kp [(0, Sl.v b), (1, .string (Bs a))] rfl
 refine then_normal (wp_seq (wp_region_lit ?_))
 refine sqv k rfl (r_move (k.get rfl)) fun _ l => sqv l rfl (r_move (l.get rfl)) fun _ m => sqv m rfl (r_slen (m.get rfl) tU9) fun _ n => sqv n rfl (r_conv (n.get rfl) rfl tU22) fun _ f => ?_
 refine sq (opk_call f rfl (r_call (args := #[Sl.v b, .int .u64 (IntKind.u64.wrap (a.length : Int))]) Tryz.func27 (by decide) rfl (map_arr (ml_cons (f.get rfl) (ml_cons (f.get rfl) ml_nil))) rfl) j fun ab ad h o _ af ag t => ?_)
 obtain ⟨d, rfl, u⟩ := t
 refine sqv o rfl (r_move (o.get rfl)) fun _ g => ?_
 refine sq (opk_run g rfl (fun _ _ hr => r_append (g.get rfl) (g.get rfl) hr) u fun ah ai i p _ aj ak x => ?_)
 obtain ⟨c, rfl, y⟩ := x
 refine sqv p rfl (r_assign (p.get rfl)) fun _ z => sq_end ?_
 have q := z.kp [(4, Sl.v c)] rfl
 refine then_normal ?_
 refine wp_ret ?_
 exact res_all (vs := [Sl.v c]) rfl q ⟨res_of_tmp q rfl, trivial⟩ y
def vint_Get.vc (d : Sl) (b : Int) (R : Value → World → Prop) (w : World) : Prop :=
(((b < 0) ∨ ((d.n : Int) < b)) →
R (.tuple #[.int .u64 0, .int .i64 0, .int .i64 1]) w) ∧
(((¬ (b < 0)) ∧ (¬ ((d.n : Int) < b))) →
(I64 ((d.n : Int) - b)) ∧
(I64 (b + (min ((d.n : Int) - b) 10))) ∧
((0 : Int) ≤ b ∧ (b : Int) ≤ b + (min ((d.n : Int) - b) 10) ∧ b + (min ((d.n : Int) - b) 10) ≤ (d.c : Int)) ∧
∃ (l : Int → Int → World → Prop) (m : Int → Int → World → Nat),
l 0 0 w ∧
(∀ (j : Int) (f : Int) (k : World), l j f k →
((f < ((Sl.cut d 1 b.toNat (b + (min ((d.n : Int) - b) 10)).toNat d.c).n : Int)) →
((0 : Int) ≤ f ∧ f < ((Sl.cut d 1 b.toNat (b + (min ((d.n : Int) - b) 10)).toNat d.c).n : Int)) ∧ ∃ ab : Addr, (Sl.cut d 1 b.toNat (b + (min ((d.n : Int) - b) 10)).toNat d.c).a = some ab ∧
∃ (i : Int), (k.cell? (ab.add (f.toNat * 1)) = some (.int .u8 i)) ∧
(((f = 9) ∧ (1 < i)) →
R (.tuple #[.int .u64 0, .int .i64 0, .int .i64 10]) k) ∧
(((¬ (f = 9)) ∨ (¬ (1 < i))) →
(I64 (7 * f)) ∧
((0 : Int) ≤ (7 * f) ∧ (7 * f) ≤ 64) ∧
((128 ≤ i) →
(I64 (f + 1)) ∧
l (bits .or .u64 j (IntKind.u64.wrap ((IntKind.u64.wrap (bits .andNot .u8 i 128)) * 2 ^ (7 * f).toNat))) (f + 1) k ∧ m (bits .or .u64 j (IntKind.u64.wrap ((IntKind.u64.wrap (bits .andNot .u8 i 128)) * 2 ^ (7 * f).toNat))) (f + 1) k < m j f k) ∧
((¬ (128 ≤ i)) →
(((i = 0) ∧ (0 < f)) →
R (.tuple #[.int .u64 0, .int .i64 0, .int .i64 10]) k) ∧
(((¬ (i = 0)) ∨ (¬ (0 < f))) →
(I64 (b + f)) ∧
(I64 ((b + f) + 1)) ∧
R (.tuple #[.int .u64 (bits .or .u64 j (IntKind.u64.wrap ((IntKind.u64.wrap (bits .andNot .u8 i 128)) * 2 ^ (7 * f).toNat))), .int .i64 ((b + f) + 1), .int .i64 0]) k)))) ∧
((¬ (f < ((Sl.cut d 1 b.toNat (b + (min ((d.n : Int) - b) 10)).toNat d.c).n : Int))) →
R (.tuple #[.int .u64 0, .int .i64 0, .int .i64 9]) k)))
theorem vint_Get.ok (d : Sl) (b : Int) {R : Value → World → Prop} {w : World} (ad : vint_Get.vc d b R w) : Calls Tryz.prog 56 #[Sl.v d, .int .i64 b] w (Ret R) := by
 refine enter [Sl.v d, .int .i64 b] Tryz.func56 rfl Tryz.ntmps56 rfl ?_
 intro a0 bj
 unfold vint_Get.vc at ad
 refine wp_seq (wp_region_lit ?_)
 refine sqv bj rfl (r_assign rfl) fun _ bk => sqv bk rfl (r_assign rfl) fun _ bl => sqv bl rfl (r_assign rfl) fun _ bm => sq_end ?_
 have ar := bm.kp [(0, Sl.v d), (1, .int .i64 b)] rfl
 refine then_normal (wp_seq (wp_seq (wp_region_lit ?_)))
 refine sqv ar rfl (r_move (ar.get rfl)) fun _ au => sqv au rfl (r_lss (au.get rfl) rfl) fun _ av => sqv av rfl (r_move (av.get rfl)) fun _ ax => ?_
 refine sq (opk_gval ax rfl rfl (g := true) (e := (decide (b < 0))) rfl (fun hg => r_move (ax.get rfl)) fun cp ay _ => ?_)
 refine sq (opk_gval ay rfl rfl (g := true) (e := (decide (b < 0))) rfl (fun hg => r_move (ay.get rfl)) fun cq az _ => ?_)
 refine sq (opk_gval az rfl rfl (g := true) (e := (decide (b < 0))) rfl (fun hg => r_len (cv_get (az.get rfl) hg) tU27) fun cr af _ => ?_)
 refine sq (opk_gval af rfl rfl (g := true) (e := (decide (b < 0))) rfl (fun hg => r_gtr (cv_get (af.get rfl) hg) (cv_get (af.get rfl) hg)) fun cs ag _ => ?_)
 refine sqv ag rfl (r_pick_or (g := (true && ((decide (b < 0)) == false))) (ag.get rfl) (ag.get rfl) (fun he => g_mkf rfl he)) fun _ bn => sq_end ?_
 have ah := bn.kp [(0, Sl.v d), (1, .int .i64 b), (17, .bool ((decide (b < 0)) || (decide ((d.n : Int) < b))))] rfl
 refine then_normal ?_
 refine wp_cond_split (ah.get rfl) (fun hc => ?_) (fun hc => ?_)
 ·have bo := ad.1 ((b_or_t hc).imp (fun h => (of_decide_eq_true h)) (fun h => (of_decide_eq_true h)))
  clear hc
  refine wp_seq (wp_region_lit ?_)
  refine sqv ah rfl (r_assign rfl) fun _ bp => sqv bp rfl (r_assign rfl) fun _ bq => sqv bq rfl (r_assign rfl) fun _ br => sq_end ?_
  have o := br.kp [(4, .int .u64 0), (5, .int .i64 0), (6, .int .i64 1)] rfl
  refine then_normal ?_
  refine wp_ret ?_
  refine then_ret ?_
  exact res_all (vs := [.int .u64 0, .int .i64 0, .int .i64 1]) rfl o ⟨res_of_tmp o rfl, res_of_tmp o rfl, res_of_tmp o rfl, trivial⟩ bo
 ·have bs := ad.2 ⟨(of_decide_eq_false (b_or_f hc).1), (of_decide_eq_false (b_or_f hc).2)⟩
  clear hc
  refine wp_skip ?_
  refine then_normal (wp_seq (wp_region_lit ?_))
  refine sqv ah rfl (r_assign rfl) fun _ bt => sq_end ?_
  have aA := bt.kp [(0, Sl.v d), (1, .int .i64 b), (7, .int .u64 0)] rfl
  refine then_normal (wp_seq (wp_seq (wp_region_lit ?_)))
  refine sqv aA rfl (r_move (aA.get rfl)) fun _ aB => sqv aB rfl (r_move (aB.get rfl)) fun _ aC => sqv aC rfl (r_move (aC.get rfl)) fun _ aD => sqv aD rfl (r_move (aD.get rfl)) fun _ aF => sqv aF rfl (r_len (aF.get rfl) tU27) fun _ aG => sqv aG rfl (r_move (aG.get rfl)) fun _ ai => ?_
  obtain ⟨bu, bv⟩ := bs
  refine sqv ai rfl (r_subI (ai.get rfl) (ai.get rfl) bu) fun _ aH => sqv aH rfl (r_min (aH.get rfl) rfl) fun _ aj => ?_
  obtain ⟨bx, bz⟩ := bv
  refine sqv aj rfl (r_addI (aj.get rfl) (aj.get rfl) bx) fun _ p => ?_
  obtain ⟨bA, bB⟩ := bz
  refine sqv p rfl (r_slice2 (p.get rfl) (p.get rfl) (p.get rfl) tU27 ti_5 bA) fun _ aI => sqv aI rfl (r_len (aI.get rfl) tU27) fun _ bC => sqv bC rfl (r_move rfl) fun _ bD => sq_end ?_
  have bF := bD.kp [(1, .int .i64 b), (7, .int .u64 0), (27, Sl.v (Sl.cut d 1 b.toNat (b + (min ((d.n : Int) - b) 10)).toNat d.c)), (28, .int .i64 ((Sl.cut d 1 b.toNat (b + (min ((d.n : Int) - b) 10)).toNat d.c).n : Int)), (29, .int .i64 0)] rfl
  refine then_normal (wp_block ?_)
  obtain ⟨l, m, bG, bH⟩ := bB
  refine wp_loop_st (σ := Int × Int × World) (fun s a w => Ag 62 a [(1, .int .i64 b), (7, .int .u64 s.1), (27, Sl.v (Sl.cut d 1 b.toNat (b + (min ((d.n : Int) - b) 10)).toNat d.c)), (28, .int .i64 ((Sl.cut d 1 b.toNat (b + (min ((d.n : Int) - b) 10)).toNat d.c).n : Int)), (29, .int .i64 s.2.1)] ∧ w = s.2.2 ∧ l s.1 s.2.1 s.2.2) (fun s => m s.1 s.2.1 s.2.2) (0, 0, w) ⟨bF.kp [(1, .int .i64 b), (7, .int .u64 0), (27, Sl.v (Sl.cut d 1 b.toNat (b + (min ((d.n : Int) - b) 10)).toNat d.c)), (28, .int .i64 ((Sl.cut d 1 b.toNat (b + (min ((d.n : Int) - b) 10)).toNat d.c).n : Int)), (29, .int .i64 0)] rfl, rfl, bG⟩ ?_
  rintro ⟨j, f, k⟩ ct w_ ⟨ak, hw_, bI⟩
  have hw_ : k = w_ := hw_.symm
  subst hw_
  have aJ := bH j f _ bI
  refine wp_seq (wp_region_lit ?_)
  refine sqv ak rfl (r_lss (ak.get rfl) (ak.get rfl)) fun _ bJ => sq_end ?_
  have q := bJ.kp [(1, .int .i64 b), (7, .int .u64 j), (27, Sl.v (Sl.cut d 1 b.toNat (b + (min ((d.n : Int) - b) 10)).toNat d.c)), (28, .int .i64 ((Sl.cut d 1 b.toNat (b + (min ((d.n : Int) - b) 10)).toNat d.c).n : Int)), (29, .int .i64 f), (30, .bool (decide (f < ((Sl.cut d 1 b.toNat (b + (min ((d.n : Int) - b) 10)).toNat d.c).n : Int))))] rfl
  refine then_normal (wp_seq ?_)
  refine wp_cond_split (q.get rfl) (fun hc => ?_) (fun hc => ?_)
  ·have bK := aJ.1 (of_decide_eq_true hc)
   clear hc
   refine wp_skip ?_
   refine then_normal (wp_seq (wp_block (wp_seq (wp_region_lit ?_))))
   refine sqv q rfl (r_move (q.get rfl)) fun _ al => ?_
   obtain ⟨bL, ab, bM, bN⟩ := bK
   refine sqv al rfl (r_indexAddr (al.get rfl) (al.get rfl) tU27 ti_5 bL bM) fun _ aK => ?_
   obtain ⟨i, bO, aL⟩ := bN
   refine sqv aK rfl (r_load1 tU5 rfl (aK.get rfl) bO) fun _ aM => sqv aM rfl (r_assign (aM.get rfl)) fun _ aN => sqv aN rfl (r_assign (aN.get rfl)) fun _ bP => sq_end ?_
   have aO := bP.kp [(1, .int .i64 b), (7, .int .u64 j), (8, .int .i64 f), (9, .int .u8 i), (27, Sl.v (Sl.cut d 1 b.toNat (b + (min ((d.n : Int) - b) 10)).toNat d.c)), (28, .int .i64 ((Sl.cut d 1 b.toNat (b + (min ((d.n : Int) - b) 10)).toNat d.c).n : Int)), (29, .int .i64 f)] rfl
   refine then_normal (wp_seq (wp_seq (wp_region_lit ?_)))
   refine sqv aO rfl (r_move (aO.get rfl)) fun _ aP => sqv aP rfl (r_eql (aP.get rfl) rfl) fun _ aQ => sqv aQ rfl (r_move (aQ.get rfl)) fun _ aR => ?_
   refine sq (opk_gval aR rfl rfl (g := true) (e := (decide (f = 9))) rfl (fun hg => r_move (aR.get rfl)) fun cu aS _ => ?_)
   refine sq (opk_gval aS rfl rfl (g := true) (e := (decide (f = 9))) rfl (fun hg => r_gtr (cv_get (aS.get rfl) hg) rfl) fun cv am _ => ?_)
   refine sqv am rfl (r_pick_and (g := (true && ((decide (f = 9)) == true))) (am.get rfl) (am.get rfl) (fun he => g_mkt rfl he)) fun _ bQ => sq_end ?_
   have r := bQ.kp [(1, .int .i64 b), (7, .int .u64 j), (8, .int .i64 f), (9, .int .u8 i), (27, Sl.v (Sl.cut d 1 b.toNat (b + (min ((d.n : Int) - b) 10)).toNat d.c)), (28, .int .i64 ((Sl.cut d 1 b.toNat (b + (min ((d.n : Int) - b) 10)).toNat d.c).n : Int)), (29, .int .i64 f), (39, .bool ((decide (f = 9)) && (decide (1 < i))))] rfl
   refine then_normal ?_
   refine wp_cond_split (r.get rfl) (fun hc => ?_) (fun hc => ?_)
   ·have bR := aL.1 ⟨(of_decide_eq_true (b_and_t hc).1), (of_decide_eq_true (b_and_t hc).2)⟩
    clear hc
    refine wp_seq (wp_region_lit ?_)
    refine sqv r rfl (r_assign rfl) fun _ bS => sqv bS rfl (r_assign rfl) fun _ bT => sqv bT rfl (r_assign rfl) fun _ bU => sq_end ?_
    have t := bU.kp [(4, .int .u64 0), (5, .int .i64 0), (6, .int .i64 10)] rfl
    refine then_normal ?_
    refine wp_ret ?_
    refine then_ret ?_
    refine block_ret ?_
    refine then_ret ?_
    refine then_ret ?_
    refine block_ret ?_
    refine then_ret ?_
    exact res_all (vs := [.int .u64 0, .int .i64 0, .int .i64 10]) rfl t ⟨res_of_tmp t rfl, res_of_tmp t rfl, res_of_tmp t rfl, trivial⟩ bR
   ·have bV := aL.2 ((b_and_f hc).imp (fun h => (of_decide_eq_false h)) (fun h => (of_decide_eq_false h)))
    clear hc
    refine wp_skip ?_
    refine then_normal (wp_seq (wp_region_lit ?_))
    refine sqv r rfl (r_move (r.get rfl)) fun _ aT => sqv aT rfl (r_move (aT.get rfl)) fun _ aU => sqv aU rfl (r_andNot (aU.get rfl) rfl) fun _ aV => sqv aV rfl (r_conv (aV.get rfl) rfl tU22) fun _ aX => sqv aX rfl (r_move (aX.get rfl)) fun _ aY => ?_
    obtain ⟨bX, bY⟩ := bV
    refine sqv aY rfl (r_mulI rfl (aY.get rfl) bX) fun _ an => ?_
    obtain ⟨aZ, ht175⟩ := bY
    refine sqv an rfl (r_shl (an.get rfl) (an.get rfl) aZ.1 aZ.2) fun _ ao => sqv ao rfl (r_bor (ao.get rfl) (ao.get rfl)) fun _ a1 => sqv a1 rfl (r_assign (a1.get rfl)) fun _ bZ => sq_end ?_
    have a2 := bZ.kp [(1, .int .i64 b), (7, .int .u64 (bits .or .u64 j (IntKind.u64.wrap ((IntKind.u64.wrap (bits .andNot .u8 i 128)) * 2 ^ (7 * f).toNat)))), (8, .int .i64 f), (9, .int .u8 i), (27, Sl.v (Sl.cut d 1 b.toNat (b + (min ((d.n : Int) - b) 10)).toNat d.c)), (28, .int .i64 ((Sl.cut d 1 b.toNat (b + (min ((d.n : Int) - b) 10)).toNat d.c).n : Int)), (29, .int .i64 f)] rfl
    refine then_normal (wp_seq (wp_seq (wp_region_lit ?_)))
    refine sqv a2 rfl (r_move (a2.get rfl)) fun _ a3 => sqv a3 rfl (r_geq (a3.get rfl) rfl) fun _ b0 => sq_end ?_
    have u := b0.kp [(1, .int .i64 b), (7, .int .u64 (bits .or .u64 j (IntKind.u64.wrap ((IntKind.u64.wrap (bits .andNot .u8 i 128)) * 2 ^ (7 * f).toNat)))), (8, .int .i64 f), (9, .int .u8 i), (27, Sl.v (Sl.cut d 1 b.toNat (b + (min ((d.n : Int) - b) 10)).toNat d.c)), (28, .int .i64 ((Sl.cut d 1 b.toNat (b + (min ((d.n : Int) - b) 10)).toNat d.c).n : Int)), (29, .int .i64 f), (49, .bool (decide (128 ≤ i)))] rfl
    refine then_normal ?_
    refine wp_cond_split (u.get rfl) (fun hc => ?_) (fun hc => ?_)
    ·have b1 := ht175.1 (of_decide_eq_true hc)
     clear hc
     refine wp_exit ?_
     refine then_exit ?_
     refine block_hit ?_
     have a4 := u.kp [(1, .int .i64 b), (7, .int .u64 (bits .or .u64 j (IntKind.u64.wrap ((IntKind.u64.wrap (bits .andNot .u8 i 128)) * 2 ^ (7 * f).toNat)))), (27, Sl.v (Sl.cut d 1 b.toNat (b + (min ((d.n : Int) - b) 10)).toNat d.c)), (28, .int .i64 ((Sl.cut d 1 b.toNat (b + (min ((d.n : Int) - b) 10)).toNat d.c).n : Int)), (29, .int .i64 f)] rfl
     refine then_normal (wp_region_lit ?_)
     obtain ⟨b2, a5⟩ := b1
     refine sqv a4 rfl (r_addI (a4.get rfl) rfl b2) fun _ a6 => sqv a6 rfl (r_move (a6.get rfl)) fun _ b3 => sq_end ?_
     have b4 := b3.kp [(1, .int .i64 b), (7, .int .u64 (bits .or .u64 j (IntKind.u64.wrap ((IntKind.u64.wrap (bits .andNot .u8 i 128)) * 2 ^ (7 * f).toNat)))), (27, Sl.v (Sl.cut d 1 b.toNat (b + (min ((d.n : Int) - b) 10)).toNat d.c)), (28, .int .i64 ((Sl.cut d 1 b.toNat (b + (min ((d.n : Int) - b) 10)).toNat d.c).n : Int)), (29, .int .i64 (f + 1))] rfl
     have b5 := b4.kp [(1, .int .i64 b), (7, .int .u64 (bits .or .u64 j (IntKind.u64.wrap ((IntKind.u64.wrap (bits .andNot .u8 i 128)) * 2 ^ (7 * f).toNat)))), (27, Sl.v (Sl.cut d 1 b.toNat (b + (min ((d.n : Int) - b) 10)).toNat d.c)), (28, .int .i64 ((Sl.cut d 1 b.toNat (b + (min ((d.n : Int) - b) 10)).toNat d.c).n : Int)), (29, .int .i64 (f + 1))] rfl
     exact then_normal ⟨(bits .or .u64 j (IntKind.u64.wrap ((IntKind.u64.wrap (bits .andNot .u8 i 128)) * 2 ^ (7 * f).toNat)), f + 1, k), ⟨b5, rfl, a5.1⟩, a5.2⟩
    ·have a7 := ht175.2 (of_decide_eq_false hc)
     clear hc
     refine wp_skip ?_
     refine then_normal (wp_seq (wp_seq (wp_region_lit ?_)))
     refine sqv u rfl (r_move (u.get rfl)) fun _ a8 => sqv a8 rfl (r_eql (a8.get rfl) rfl) fun _ a9 => sqv a9 rfl (r_move (a9.get rfl)) fun _ ba => ?_
     refine sq (opk_gval ba rfl rfl (g := true) (e := (decide (i = 0))) rfl (fun hg => r_move (ba.get rfl)) fun cx bb _ => ?_)
     refine sq (opk_gval bb rfl rfl (g := true) (e := (decide (i = 0))) rfl (fun hg => r_gtr (cv_get (bb.get rfl) hg) rfl) fun cy ap _ => ?_)
     refine sqv ap rfl (r_pick_and (g := (true && ((decide (i = 0)) == true))) (ap.get rfl) (ap.get rfl) (fun he => g_mkt rfl he)) fun _ b6 => sq_end ?_
     have x := b6.kp [(1, .int .i64 b), (7, .int .u64 (bits .or .u64 j (IntKind.u64.wrap ((IntKind.u64.wrap (bits .andNot .u8 i 128)) * 2 ^ (7 * f).toNat)))), (8, .int .i64 f), (55, .bool ((decide (i = 0)) && (decide (0 < f))))] rfl
     refine then_normal ?_
     refine wp_cond_split (x.get rfl) (fun hc => ?_) (fun hc => ?_)
     ·have b7 := a7.1 ⟨(of_decide_eq_true (b_and_t hc).1), (of_decide_eq_true (b_and_t hc).2)⟩
      clear hc
      refine wp_seq (wp_region_lit ?_)
      refine sqv x rfl (r_assign rfl) fun _ b8 => sqv b8 rfl (r_assign rfl) fun _ b9 => sqv b9 rfl (r_assign rfl) fun _ ca => sq_end ?_
      have y := ca.kp [(4, .int .u64 0), (5, .int .i64 0), (6, .int .i64 10)] rfl
      refine then_normal ?_
      refine wp_ret ?_
      refine then_ret ?_
      refine block_ret ?_
      refine then_ret ?_
      refine then_ret ?_
      refine block_ret ?_
      refine then_ret ?_
      exact res_all (vs := [.int .u64 0, .int .i64 0, .int .i64 10]) rfl y ⟨res_of_tmp y rfl, res_of_tmp y rfl, res_of_tmp y rfl, trivial⟩ b7
     ·have cb := a7.2 ((b_and_f hc).imp (fun h => (of_decide_eq_false h)) (fun h => (of_decide_eq_false h)))
      clear hc
      refine wp_skip ?_
      refine then_normal (wp_seq (wp_region_lit ?_))
      refine sqv x rfl (r_move (x.get rfl)) fun _ bd => sqv bd rfl (r_move (bd.get rfl)) fun _ bf => sqv bf rfl (r_move (bf.get rfl)) fun _ aq => ?_
      obtain ⟨cc, cd⟩ := cb
      refine sqv aq rfl (r_addI (aq.get rfl) (aq.get rfl) cc) fun _ bg => ?_
      obtain ⟨cf, cg⟩ := cd
      refine sqv bg rfl (r_addI (bg.get rfl) rfl cf) fun _ bh => sqv bh rfl (r_assign (bh.get rfl)) fun _ bi => sqv bi rfl (r_assign (bi.get rfl)) fun _ ch => sqv ch rfl (r_assign rfl) fun _ ci => sq_end ?_
      have z := ci.kp [(4, .int .u64 (bits .or .u64 j (IntKind.u64.wrap ((IntKind.u64.wrap (bits .andNot .u8 i 128)) * 2 ^ (7 * f).toNat)))), (5, .int .i64 ((b + f) + 1)), (6, .int .i64 0)] rfl
      refine then_normal ?_
      refine wp_ret ?_
      refine block_ret ?_
      refine then_ret ?_
      refine then_ret ?_
      refine block_ret ?_
      refine then_ret ?_
      exact res_all (vs := [.int .u64 (bits .or .u64 j (IntKind.u64.wrap ((IntKind.u64.wrap (bits .andNot .u8 i 128)) * 2 ^ (7 * f).toNat))), .int .i64 ((b + f) + 1), .int .i64 0]) rfl z ⟨res_of_tmp z rfl, res_of_tmp z rfl, res_of_tmp z rfl, trivial⟩ cg
  ·have cj := aJ.2 (of_decide_eq_false hc)
   clear hc
   refine wp_exit ?_
   refine then_exit ?_
   refine then_exit ?_
   refine block_hit ?_
   have ck := q.kp [] rfl
   refine then_normal (wp_seq (wp_region_lit ?_))
   refine sqv ck rfl (r_assign rfl) fun _ cl => sqv cl rfl (r_assign rfl) fun _ cm => sqv cm rfl (r_assign rfl) fun _ cn => sq_end ?_
   have aa := cn.kp [(4, .int .u64 0), (5, .int .i64 0), (6, .int .i64 9)] rfl
   refine then_normal ?_
   refine wp_ret ?_
   exact res_all (vs := [.int .u64 0, .int .i64 0, .int .i64 9]) rfl aa ⟨res_of_tmp aa rfl, res_of_tmp aa rfl, res_of_tmp aa rfl, trivial⟩ cj
def vint_GetText.vc (d : Sl) (j : Int) (f : Int) (R : Value → World → Prop) (w : World) : Prop :=
CallK Tryz.prog 56 #[Sl.v d, .int .i64 j] w [] (fun v k => ∃ (b : Int) (a : Int) (i : Int), v = .tuple #[.int .u64 b, .int .i64 a, .int .i64 i] ∧
((i ≠ 0) →
R (.tuple #[.string (Bs []), .int .i64 0, .int .i64 i]) k) ∧
((¬ (i ≠ 0)) →
(((f < 0) ∨ ((IntKind.u64.wrap f) < b)) →
R (.tuple #[.string (Bs []), .int .i64 0, .int .i64 2]) k) ∧
(((¬ (f < 0)) ∧ (¬ ((IntKind.u64.wrap f) < b))) →
(I64 ((d.n : Int) - a)) ∧
(((IntKind.u64.wrap ((d.n : Int) - a)) < b) →
R (.tuple #[.string (Bs []), .int .i64 0, .int .i64 9]) k) ∧
((¬ ((IntKind.u64.wrap ((d.n : Int) - a)) < b)) →
(I64 b) ∧
(I64 (a + b)) ∧
((0 : Int) ≤ a ∧ (a : Int) ≤ a + b ∧ a + b ≤ (d.c : Int)) ∧
∃ l : Str, ((convert 27 9 (Sl.v (Sl.cut d 1 a.toNat (a + b).toNat d.c))).run Tryz.prog k = .ok (.string (Bs l)) k) ∧
R (.tuple #[.string (Bs l), .int .i64 (a + b), .int .i64 0]) k))))
theorem vint_GetText.ok (d : Sl) (j : Int) (f : Int) {R : Value → World → Prop} {w : World} (af : vint_GetText.vc d j f R w) : Calls Tryz.prog 57 #[Sl.v d, .int .i64 j, .int .i64 f] w (Ret R) := by
 refine enter [Sl.v d, .int .i64 j, .int .i64 f] Tryz.func57 rfl Tryz.ntmps57 rfl ?_
 intro a0 aV
 unfold vint_GetText.vc at af
 refine wp_seq (wp_region_lit ?_)
 refine sqv aV rfl (r_assign rfl) fun _ aX => sqv aX rfl (r_assign rfl) fun _ aY => sqv aY rfl (r_assign rfl) fun _ aZ => sq_end ?_
 have ag := aZ.kp [(0, Sl.v d), (1, .int .i64 j), (2, .int .i64 f)] rfl
 refine then_normal (wp_seq (wp_region_lit ?_))
 refine sqv ag rfl (r_move (ag.get rfl)) fun _ ah => sqv ah rfl (r_move (ah.get rfl)) fun _ x => ?_
 refine sq (opk_call x rfl (r_call (args := #[Sl.v d, .int .i64 j]) Tryz.func56 (by decide) rfl (map_arr (ml_cons (x.get rfl) (ml_cons (x.get rfl) ml_nil))) rfl) af fun bA bB k ai _ bC bD hK18 => ?_)
 obtain ⟨b, a, i, rfl, aj⟩ := hK18
 refine sqv ai rfl (r_move (ai.get rfl)) fun _ ak => sqv ak rfl (r_extract (ak.get rfl) rfl) fun _ al => sqv al rfl (r_extract (al.get rfl) rfl) fun _ am => sqv am rfl (r_extract (am.get rfl) rfl) fun _ an => sqv an rfl (r_assign (an.get rfl)) fun _ ao => sqv ao rfl (r_assign (ao.get rfl)) fun _ ap => sqv ap rfl (r_assign (ap.get rfl)) fun _ a1 => sq_end ?_
 have aq := a1.kp [(0, Sl.v d), (1, .int .i64 a), (2, .int .i64 f), (9, .int .u64 b), (10, .int .i64 i)] rfl
 refine then_normal (wp_seq (wp_block (wp_seq (wp_region_lit ?_))))
 refine sqv aq rfl (r_move (aq.get rfl)) fun _ ar => sqv ar rfl (r_neq (ar.get rfl) rfl) fun _ au => sqv au rfl (r_assign (au.get rfl)) fun _ a2 => sq_end ?_
 have m := a2.kp [(0, Sl.v d), (1, .int .i64 a), (2, .int .i64 f), (9, .int .u64 b), (10, .int .i64 i), (19, .bool (decide (i ≠ 0)))] rfl
 refine then_normal ?_
 refine wp_cond_split (m.get rfl) (fun hc => ?_) (fun hc => ?_)
 ·have a3 := aj.1 (of_decide_eq_true hc)
  clear hc
  refine wp_seq (wp_region_lit ?_)
  refine sqv m rfl (r_move (m.get rfl)) fun _ a4 => sqv a4 rfl (r_assign rfl) fun _ a5 => sqv a5 rfl (r_assign rfl) fun _ av => sqv av rfl (r_assign (av.get rfl)) fun _ a6 => sq_end ?_
  have o := a6.kp [(6, .string (Bs [])), (7, .int .i64 0), (8, .int .i64 i)] rfl
  refine then_normal ?_
  refine wp_ret ?_
  refine block_ret ?_
  refine then_ret ?_
  exact res_all (vs := [.string (Bs []), .int .i64 0, .int .i64 i]) rfl o ⟨res_of_tmp o rfl, res_of_tmp o rfl, res_of_tmp o rfl, trivial⟩ a3
 ·have ax := aj.2 (of_decide_eq_false hc)
  clear hc
  refine wp_seq (wp_region_lit ?_)
  refine sqv m rfl (r_move (m.get rfl)) fun _ ay => sqv ay rfl (r_lss (ay.get rfl) rfl) fun _ az => sqv az rfl (r_move (az.get rfl)) fun _ aA => ?_
  refine sq (opk_gval aA rfl rfl (g := true) (e := (decide (f < 0))) rfl (fun hg => r_move (aA.get rfl)) fun bF aB _ => ?_)
  refine sq (opk_gval aB rfl rfl (g := true) (e := (decide (f < 0))) rfl (fun hg => r_move (aB.get rfl)) fun bG aC _ => ?_)
  refine sq (opk_gval aC rfl rfl (g := true) (e := (decide (f < 0))) rfl (fun hg => r_conv (cv_get (aC.get rfl) hg) rfl tU22) fun bH y _ => ?_)
  refine sq (opk_gval y rfl rfl (g := true) (e := (decide (f < 0))) rfl (fun hg => r_gtr (cv_get (y.get rfl) hg) (cv_get (y.get rfl) hg)) fun bI z _ => ?_)
  refine sqv z rfl (r_pick_or (g := (true && ((decide (f < 0)) == false))) (z.get rfl) (z.get rfl) (fun he => g_mkf rfl he)) fun _ aD => sqv aD rfl (r_assign (aD.get rfl)) fun _ a7 => sq_end ?_
  have p := a7.kp [(0, Sl.v d), (1, .int .i64 a), (9, .int .u64 b), (23, .bool ((decide (f < 0)) || (decide ((IntKind.u64.wrap f) < b))))] rfl
  refine then_normal ?_
  refine wp_cond_split (p.get rfl) (fun hc => ?_) (fun hc => ?_)
  ·have a8 := ax.1 ((b_or_t hc).imp (fun h => (of_decide_eq_true h)) (fun h => (of_decide_eq_true h)))
   clear hc
   refine wp_seq (wp_region_lit ?_)
   refine sqv p rfl (r_assign rfl) fun _ a9 => sqv a9 rfl (r_assign rfl) fun _ ba => sqv ba rfl (r_assign rfl) fun _ bb => sq_end ?_
   have q := bb.kp [(6, .string (Bs [])), (7, .int .i64 0), (8, .int .i64 2)] rfl
   refine then_normal ?_
   refine wp_ret ?_
   refine block_ret ?_
   refine then_ret ?_
   exact res_all (vs := [.string (Bs []), .int .i64 0, .int .i64 2]) rfl q ⟨res_of_tmp q rfl, res_of_tmp q rfl, res_of_tmp q rfl, trivial⟩ a8
  ·have bd := ax.2 ⟨(of_decide_eq_false (b_or_f hc).1), (of_decide_eq_false (b_or_f hc).2)⟩
   clear hc
   refine wp_seq (wp_region_lit ?_)
   refine sqv p rfl (r_move (p.get rfl)) fun _ aF => sqv aF rfl (r_move (aF.get rfl)) fun _ aG => sqv aG rfl (r_len (aG.get rfl) tU27) fun _ aH => sqv aH rfl (r_move (aH.get rfl)) fun _ aa => ?_
   obtain ⟨bf, aI⟩ := bd
   refine sqv aa rfl (r_subI (aa.get rfl) (aa.get rfl) bf) fun _ aJ => sqv aJ rfl (r_conv (aJ.get rfl) rfl tU22) fun _ ab => sqv ab rfl (r_gtr (ab.get rfl) (ab.get rfl)) fun _ aK => sqv aK rfl (r_assign (aK.get rfl)) fun _ bg => sq_end ?_
   have r := bg.kp [(0, Sl.v d), (1, .int .i64 a), (9, .int .u64 b), (32, .bool (decide ((IntKind.u64.wrap ((d.n : Int) - a)) < b)))] rfl
   refine then_normal ?_
   refine wp_cond_split (r.get rfl) (fun hc => ?_) (fun hc => ?_)
   ·have bh := aI.1 (of_decide_eq_true hc)
    clear hc
    refine wp_seq (wp_region_lit ?_)
    refine sqv r rfl (r_assign rfl) fun _ bi => sqv bi rfl (r_assign rfl) fun _ bj => sqv bj rfl (r_assign rfl) fun _ bk => sq_end ?_
    have s := bk.kp [(6, .string (Bs [])), (7, .int .i64 0), (8, .int .i64 9)] rfl
    refine then_normal ?_
    refine wp_ret ?_
    refine block_ret ?_
    refine then_ret ?_
    exact res_all (vs := [.string (Bs []), .int .i64 0, .int .i64 9]) rfl s ⟨res_of_tmp s rfl, res_of_tmp s rfl, res_of_tmp s rfl, trivial⟩ bh
   ·have bl := aI.2 (of_decide_eq_false hc)
    clear hc
    refine wp_skip ?_
    refine block_normal ?_
    refine then_normal (wp_seq (wp_region_lit ?_))
    refine sqv r rfl (r_move (r.get rfl)) fun _ aL => sqv aL rfl (r_move (aL.get rfl)) fun _ aM => ?_
    obtain ⟨bm, bn⟩ := bl
    refine sqv aM rfl (r_convI (aM.get rfl) rfl tU3 bm) fun _ ad => ?_
    obtain ⟨bo, bp⟩ := bn
    refine sqv ad rfl (r_addI (ad.get rfl) (ad.get rfl) bo) fun _ aN => sqv aN rfl (r_assign (aN.get rfl)) fun _ bq => sq_end ?_
    have aO := bq.kp [(0, Sl.v d), (1, .int .i64 a), (11, .int .i64 (a + b))] rfl
    refine then_normal (wp_seq (wp_region_lit ?_))
    refine sqv aO rfl (r_move (aO.get rfl)) fun _ aP => sqv aP rfl (r_move (aP.get rfl)) fun _ aQ => sqv aQ rfl (r_move (aQ.get rfl)) fun _ t => ?_
    obtain ⟨br, bs⟩ := bp
    refine sqv t rfl (r_slice2 (t.get rfl) (t.get rfl) (t.get rfl) tU27 ti_5 br) fun _ aR => ?_
    obtain ⟨l, bt, bu⟩ := bs
    refine sqv aR rfl (r_convR (aR.get rfl) bt) fun _ aS => sqv aS rfl (r_move (aS.get rfl)) fun _ aT => sqv aT rfl (r_assign (aT.get rfl)) fun _ aU => sqv aU rfl (r_assign (aU.get rfl)) fun _ bv => sqv bv rfl (r_assign rfl) fun _ bx => sq_end ?_
    have u := bx.kp [(6, .string (Bs l)), (7, .int .i64 (a + b)), (8, .int .i64 0)] rfl
    refine then_normal ?_
    refine wp_ret ?_
    exact res_all (vs := [.string (Bs l), .int .i64 (a + b), .int .i64 0]) rfl u ⟨res_of_tmp u rfl, res_of_tmp u rfl, res_of_tmp u rfl, trivial⟩ bu
end Go.Proofs.YteacalmdpoblpaaGreat
