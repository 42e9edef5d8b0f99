/-
  PRINTED BY PROGRAM: for each function its condition (vc), and that this suffices (ok).
-/
import Derived.Test.YteacalmdpoblpaaGreatQCodecBaseGT
namespace Go.Proofs.YteacalmdpoblpaaGreat
open Go.RowKit
set_option linter.unusedVariables false
set_option maxHeartbeats 1000000
set_option maxRecDepth 10000
def ref01_Of.vc (c : Sl) (R : Value → World → Prop) (w : World) : Prop :=
∃ (j : Int → Int → World → Prop) (k : Int → Int → World → Nat),
j 0 0 w ∧
(∀ (d : Int) (b : Int) (f : World), j d b f →
(((b < (c.n : Int)) ∧ (b < 8)) →
((0 : Int) ≤ b ∧ b < (c.n : Int)) ∧ ∃ m : Addr, c.a = some m ∧
∃ (i : Int), (f.cell? (m.add (b.toNat * 1)) = some (.int .u8 i)) ∧
(I64 (8 * b)) ∧
((0 : Int) ≤ (IntKind.u64.wrap (8 * b)) ∧ (IntKind.u64.wrap (8 * b)) ≤ 64) ∧
(I64 (b + 1)) ∧
j (bits .or .u64 d (IntKind.u64.wrap ((IntKind.u64.wrap i) * 2 ^ (IntKind.u64.wrap (8 * b)).toNat))) (b + 1) f ∧ k (bits .or .u64 d (IntKind.u64.wrap ((IntKind.u64.wrap i) * 2 ^ (IntKind.u64.wrap (8 * b)).toNat))) (b + 1) f < k d b f) ∧
(((¬ (b < (c.n : Int))) ∨ (¬ (b < 8))) →
R (.int .u64 d) f))
theorem ref01_Of.ok (c : Sl) {R : Value → World → Prop} {w : World} (u : ref01_Of.vc c R w) : Calls Tryz.prog 22 #[Sl.v c] w (Ret R) := by
 refine enter [Sl.v c] Tryz.func22 rfl Tryz.ntmps22 rfl ?_
 intro a0 az
 unfold ref01_Of.vc at u
 refine wp_seq (wp_region_lit ?_)
 refine sqv az rfl (r_assign rfl) fun _ aA => sq_end ?_
 have aB := aA.kp [(0, Sl.v c)] rfl
 refine then_normal (wp_seq (wp_region_lit ?_))
 refine sqv aB rfl (r_assign rfl) fun _ aC => sq_end ?_
 have aD := aC.kp [(0, Sl.v c), (3, .int .u64 0)] rfl
 refine then_normal (wp_seq (wp_seq (wp_region_lit ?_)))
 refine sqv aD rfl (r_assign rfl) fun _ aF => sq_end ?_
 have aG := aF.kp [(0, Sl.v c), (3, .int .u64 0), (4, .int .i64 0)] rfl
 refine then_normal (wp_block ?_)
 obtain ⟨j, k, aH, aI⟩ := u
 refine wp_loop_st (σ := Int × Int × World) (fun s a w => Ag 27 a [(0, Sl.v c), (3, .int .u64 s.1), (4, .int .i64 s.2.1)] ∧ w = s.2.2 ∧ j s.1 s.2.1 s.2.2) (fun s => k s.1 s.2.1 s.2.2) (0, 0, w) ⟨aG.kp [(0, Sl.v c), (3, .int .u64 0), (4, .int .i64 0)] rfl, rfl, aH⟩ ?_
 rintro ⟨d, b, f⟩ a3 w_ ⟨x, hw_, aJ⟩
 have hw_ : f = w_ := hw_.symm
 subst hw_
 have y := aI d b _ aJ
 refine wp_seq (wp_seq (wp_region_lit ?_))
 refine sqv x rfl (r_move (x.get rfl)) fun _ z => sqv z rfl (r_move (z.get rfl)) fun _ aa => sqv aa rfl (r_len (aa.get rfl) tU27) fun _ o => sqv o rfl (r_lss (o.get rfl) (o.get rfl)) fun _ ab => sqv ab rfl (r_move (ab.get rfl)) fun _ ad => ?_
 refine sq (opk_gval ad rfl rfl (g := true) (e := (decide (b < (c.n : Int)))) rfl (fun hg => r_move (ad.get rfl)) fun a4 af _ => ?_)
 refine sq (opk_gval af rfl rfl (g := true) (e := (decide (b < (c.n : Int)))) rfl (fun hg => r_lss (cv_get (af.get rfl) hg) rfl) fun a5 p _ => ?_)
 refine sqv p rfl (r_pick_and (g := (true && ((decide (b < (c.n : Int))) == true))) (p.get rfl) (p.get rfl) (fun he => g_mkt rfl he)) fun _ aK => sq_end ?_
 have l := aK.kp [(0, Sl.v c), (3, .int .u64 d), (4, .int .i64 b), (12, .bool ((decide (b < (c.n : Int))) && (decide (b < 8))))] rfl
 refine then_normal ?_
 refine wp_cond_split (l.get rfl) (fun hc => ?_) (fun hc => ?_)
 ·have aL := y.1 ⟨(of_decide_eq_true (b_and_t hc).1), (of_decide_eq_true (b_and_t hc).2)⟩
  clear hc
  refine wp_skip ?_
  refine then_normal (wp_seq (wp_block (wp_region_lit ?_)))
  refine sqv l rfl (r_move (l.get rfl)) fun _ ag => sqv ag rfl (r_move (ag.get rfl)) fun _ ah => sqv ah rfl (r_move (ah.get rfl)) fun _ q => ?_
  obtain ⟨aM, m, aN, aO⟩ := aL
  refine sqv q rfl (r_indexAddr (q.get rfl) (q.get rfl) tU27 ti_5 aM aN) fun _ ai => ?_
  obtain ⟨i, aP, aQ⟩ := aO
  refine sqv ai rfl (r_load1 tU5 rfl (ai.get rfl) aP) fun _ aj => sqv aj rfl (r_conv (aj.get rfl) rfl tU22) fun _ ak => sqv ak rfl (r_move (ak.get rfl)) fun _ al => ?_
  obtain ⟨aR, aS⟩ := aQ
  refine sqv al rfl (r_mulI rfl (al.get rfl) aR) fun _ am => sqv am rfl (r_conv (am.get rfl) rfl tU33) fun _ r => ?_
  obtain ⟨an, aT⟩ := aS
  refine sqv r rfl (r_shl (r.get rfl) (r.get rfl) an.1 an.2) fun _ t => sqv t rfl (r_bor (t.get rfl) (t.get rfl)) fun _ ao => sqv ao rfl (r_assign (ao.get rfl)) fun _ aU => sq_end ?_
  have ap := aU.kp [(0, Sl.v c), (3, .int .u64 (bits .or .u64 d (IntKind.u64.wrap ((IntKind.u64.wrap i) * 2 ^ (IntKind.u64.wrap (8 * b)).toNat)))), (4, .int .i64 b)] rfl
  refine block_normal ?_
  refine then_normal (wp_region_lit ?_)
  refine sqv ap rfl (r_move (ap.get rfl)) fun _ aq => ?_
  obtain ⟨aV, ar⟩ := aT
  refine sqv aq rfl (r_addI (aq.get rfl) rfl aV) fun _ au => sqv au rfl (r_assign (au.get rfl)) fun _ aX => sq_end ?_
  have aY := aX.kp [(0, Sl.v c), (3, .int .u64 (bits .or .u64 d (IntKind.u64.wrap ((IntKind.u64.wrap i) * 2 ^ (IntKind.u64.wrap (8 * b)).toNat)))), (4, .int .i64 (b + 1))] rfl
  have aZ := aY.kp [(0, Sl.v c), (3, .int .u64 (bits .or .u64 d (IntKind.u64.wrap ((IntKind.u64.wrap i) * 2 ^ (IntKind.u64.wrap (8 * b)).toNat)))), (4, .int .i64 (b + 1))] rfl
  exact then_normal ⟨(bits .or .u64 d (IntKind.u64.wrap ((IntKind.u64.wrap i) * 2 ^ (IntKind.u64.wrap (8 * b)).toNat)), b + 1, f), ⟨aZ, rfl, ar.1⟩, ar.2⟩
 ·have ht70 := y.2 ((b_and_f hc).imp (fun h => (of_decide_eq_false h)) (fun h => (of_decide_eq_false h)))
  clear hc
  refine wp_exit ?_
  refine then_exit ?_
  refine then_exit ?_
  refine block_hit ?_
  have av := l.kp [(3, .int .u64 d)] rfl
  refine then_normal (wp_seq (wp_region_lit ?_))
  refine sqv av rfl (r_move (av.get rfl)) fun _ ax => sqv ax rfl (r_assign (ax.get rfl)) fun _ a1 => sq_end ?_
  have ay := a1.kp [(2, .int .u64 d)] rfl
  refine then_normal ?_
  refine wp_ret ?_
  exact res_all (vs := [.int .u64 d]) rfl ay ⟨res_of_tmp ay rfl, trivial⟩ ht70
def ref01_Eight.vc (c : Int) (R : Value → World → Prop) (w : World) : Prop :=
∃ (j : Sl → Int → World → Prop) (k : Sl → Int → World → Nat),
j Sl.nil 0 w ∧
(∀ (d : Sl) (b : Int) (f : World), j d b f →
((b < 8) →
(I64 (8 * b)) ∧
((0 : Int) ≤ (IntKind.u64.wrap (8 * b)) ∧ (IntKind.u64.wrap (8 * b)) ≤ 64) ∧
∀ (g : World) (i : Nat), New f i g → Chg [] f g →
∀ (_ : Box g i 5 [.int .u8 (IntKind.u8.wrap (c / 2 ^ (IntKind.u64.wrap (8 * b)).toNat))]),
RunK Tryz.prog (Builtin.append_ #[27, 27] 27 #[Sl.v d, Sl.v (Sl.mk (some ⟨i, 0, none⟩) 1 1)]) g [] (fun v l => ∃ (h : Sl), v = Sl.v h ∧
(I64 (b + 1)) ∧
j h (b + 1) l ∧ k h (b + 1) l < k d b f)) ∧
((¬ (b < 8)) →
R (Sl.v d) f))
theorem ref01_Eight.ok (c : Int) {R : Value → World → Prop} {w : World} (p : ref01_Eight.vc c R w) : Calls Tryz.prog 23 #[.int .u64 c] w (Ret R) := by
 refine enter [.int .u64 c] Tryz.func23 rfl Tryz.ntmps23 rfl ?_
 intro a0 an
 unfold ref01_Eight.vc at p
 refine wp_seq (wp_region_lit ?_)
 refine sqv an rfl (r_assign rfl) fun _ ao => sq_end ?_
 have ap := ao.kp [(0, .int .u64 c)] rfl
 refine then_normal (wp_seq (wp_region_lit ?_))
 refine sqv ap rfl (r_assign rfl) fun _ aq => sq_end ?_
 have ar := aq.kp [(0, .int .u64 c), (3, Sl.v Sl.nil)] rfl
 refine then_normal (wp_seq (wp_seq (wp_region_lit ?_)))
 refine sqv ar rfl (r_assign rfl) fun _ au => sq_end ?_
 have av := au.kp [(0, .int .u64 c), (3, Sl.v Sl.nil), (4, .int .i64 0)] rfl
 refine then_normal (wp_block ?_)
 obtain ⟨j, k, ax, ay⟩ := p
 refine wp_loop_st (σ := Sl × Int × World) (fun s a w => Ag 19 a [(0, .int .u64 c), (3, Sl.v s.1), (4, .int .i64 s.2.1)] ∧ w = s.2.2 ∧ j s.1 s.2.1 s.2.2) (fun s => k s.1 s.2.1 s.2.2) (Sl.nil, 0, w) ⟨av.kp [(0, .int .u64 c), (3, Sl.v Sl.nil), (4, .int .i64 0)] rfl, rfl, ax⟩ ?_
 rintro ⟨d, b, f⟩ aY w_ ⟨q, hw_, az⟩
 have hw_ : f = w_ := hw_.symm
 subst hw_
 have r := ay d b _ az
 refine wp_seq (wp_seq (wp_region_lit ?_))
 refine sqv q rfl (r_move (q.get rfl)) fun _ t => sqv t rfl (r_lss (t.get rfl) rfl) fun _ aA => sq_end ?_
 have m := aA.kp [(0, .int .u64 c), (3, Sl.v d), (4, .int .i64 b), (6, .bool (decide (b < 8)))] rfl
 refine then_normal ?_
 refine wp_cond_split (m.get rfl) (fun hc => ?_) (fun hc => ?_)
 ·have aB := r.1 (of_decide_eq_true hc)
  clear hc
  refine wp_skip ?_
  refine then_normal (wp_seq (wp_block (wp_region_lit ?_)))
  refine sqv m rfl (r_move (m.get rfl)) fun _ u => sqv u rfl (r_move (u.get rfl)) fun _ x => sqv x rfl (r_move (x.get rfl)) fun _ y => ?_
  obtain ⟨aC, aD⟩ := aB
  refine sqv y rfl (r_mulI rfl (y.get rfl) aC) fun _ z => sqv z rfl (r_conv (z.get rfl) rfl tU33) fun _ n => ?_
  obtain ⟨aa, aF⟩ := aD
  refine sqv n rfl (r_shr (n.get rfl) (n.get rfl) aa.1 aa.2) fun _ ab => sqv ab rfl (r_conv (ab.get rfl) rfl tU5) fun _ ad => ?_
  refine sq (opk_new (fun B => .slice (some ⟨B, 0, none⟩) 1 1) ad rfl (r_buildSlice (vs := #[(0, .int .u8 (IntKind.u8.wrap (c / 2 ^ (IntKind.u64.wrap (8 * b)).toNat)))]) (cs := [.int .u8 (IntKind.u8.wrap (c / 2 ^ (IntKind.u64.wrap (8 * b)).toNat))]) (map_arr2 (ml2_cons (ad.get rfl) (ml2_nil))) tU27 ti_5 rfl rfl (by kernel_rfl)) fun aZ g i aG aH aI o _ => ?_)
  have aJ : New f i g := aH
  have aK : Chg [] f g := aG
  have aL := aF g i aJ  aK
  have aM := aL aI
  refine sq (opk_run o rfl (fun _ _ hr => r_append (o.get rfl) (o.get rfl) hr) aM fun a1 a2 l af _ a3 a4 aN => ?_)
  obtain ⟨h, rfl, aO⟩ := aN
  refine sqv af rfl (r_assign (af.get rfl)) fun _ aP => sq_end ?_
  have ag := aP.kp [(0, .int .u64 c), (3, Sl.v h), (4, .int .i64 b)] rfl
  refine block_normal ?_
  refine then_normal (wp_region_lit ?_)
  refine sqv ag rfl (r_move (ag.get rfl)) fun _ ah => ?_
  obtain ⟨aQ, ai⟩ := aO
  refine sqv ah rfl (r_addI (ah.get rfl) rfl aQ) fun _ aj => sqv aj rfl (r_assign (aj.get rfl)) fun _ aR => sq_end ?_
  have aS := aR.kp [(0, .int .u64 c), (3, Sl.v h), (4, .int .i64 (b + 1))] rfl
  have aT := aS.kp [(0, .int .u64 c), (3, Sl.v h), (4, .int .i64 (b + 1))] rfl
  exact then_normal ⟨(h, b + 1, l), ⟨aT, rfl, ai.1⟩, ai.2⟩
 ·have aU := r.2 (of_decide_eq_false hc)
  clear hc
  refine wp_exit ?_
  refine then_exit ?_
  refine then_exit ?_
  refine block_hit ?_
  have ak := m.kp [(3, Sl.v d)] rfl
  refine then_normal (wp_seq (wp_region_lit ?_))
  refine sqv ak rfl (r_move (ak.get rfl)) fun _ al => sqv al rfl (r_assign (al.get rfl)) fun _ aV => sq_end ?_
  have am := aV.kp [(2, Sl.v d)] rfl
  refine then_normal ?_
  refine wp_ret ?_
  exact res_all (vs := [Sl.v d]) rfl am ⟨res_of_tmp am rfl, trivial⟩ aU
def ref01_Mix.vc (a : Int) (b : Int) (R : Value → World → Prop) (w : World) : Prop :=
CallK Tryz.prog 85 #[.int .u64 (bits .xor .u64 (IntKind.u64.wrap ((bits .xor .u64 a b) * 11400714819323198485)) ((IntKind.u64.wrap ((bits .xor .u64 a b) * 11400714819323198485)) / 2 ^ 29)), .int .i64 31] w [] (fun v g => ∃ (c : Int), v = .int .u64 c ∧
R (.int .u64 c) g)
theorem ref01_Mix.ok (a : Int) (b : Int) {R : Value → World → Prop} {w : World} (h : ref01_Mix.vc a b R w) : Calls Tryz.prog 47 #[.int .u64 a, .int .u64 b] w (Ret R) := by
 refine enter [.int .u64 a, .int .u64 b] Tryz.func47 rfl Tryz.ntmps47 rfl ?_
 intro a0 s
 unfold ref01_Mix.vc at h
 refine wp_seq (wp_region_lit ?_)
 refine sqv s rfl (r_assign rfl) fun _ t => sq_end ?_
 have i := t.kp [(0, .int .u64 a), (1, .int .u64 b)] rfl
 refine then_normal (wp_seq (wp_region_lit ?_))
 refine sqv i rfl (r_move (i.get rfl)) fun _ j => sqv j rfl (r_move (j.get rfl)) fun _ d => sqv d rfl (r_xor (d.get rfl) (d.get rfl)) fun _ k => sqv k rfl (r_mul (k.get rfl) rfl) fun _ l => sqv l rfl (r_assign (l.get rfl)) fun _ u => sq_end ?_
 have m := u.kp [(5, .int .u64 (IntKind.u64.wrap ((bits .xor .u64 a b) * 11400714819323198485)))] rfl
 refine then_normal (wp_seq (wp_region_lit ?_))
 refine sqv m rfl (r_move (m.get rfl)) fun _ n => sqv n rfl (r_move (n.get rfl)) fun _ o => sqv o rfl (r_shr (o.get rfl) rfl (by decide) (by decide)) fun _ f => sqv f rfl (r_xor (f.get rfl) (f.get rfl)) fun _ p => ?_
 refine sq (opk_call p rfl (r_call (args := #[.int .u64 (bits .xor .u64 (IntKind.u64.wrap ((bits .xor .u64 a b) * 11400714819323198485)) ((IntKind.u64.wrap ((bits .xor .u64 a b) * 11400714819323198485)) / 2 ^ 29)), .int .i64 31]) Tryz.func85 (by decide) rfl (map_arr (ml_cons (p.get rfl) (ml_cons rfl ml_nil))) rfl) h fun ab ad g q _ af ag x => ?_)
 obtain ⟨c, rfl, y⟩ := x
 refine sqv q rfl (r_assign (q.get rfl)) fun _ z => sq_end ?_
 have r := z.kp [(4, .int .u64 c)] rfl
 refine then_normal ?_
 refine wp_ret ?_
 exact res_all (vs := [.int .u64 c]) rfl r ⟨res_of_tmp r rfl, trivial⟩ y
def ref01_Turn.vc (d : Int) (f : Int) (R : Value → World → Prop) (w : World) : Prop :=
∃ j : Int → World → Prop,
((((f.tmod 64) < 0) →
(I64 ((f.tmod 64) + 64)) ∧
j ((f.tmod 64) + 64) w) ∧
((¬ ((f.tmod 64) < 0)) →
j (f.tmod 64) w)) ∧
(∀ (c : Int) (k : World), j c k →
∃ (l : Int → Int → World → Prop) (m : Int → Int → World → Nat),
l 0 0 k ∧
(∀ (g : Int) (b : Int) (i : World), l g b i →
((b < 64) →
CallK Tryz.prog 131 #[.int .u64 d, .int .i64 b] i [] (fun v n => ∃ (h : Int), v = .int .u64 h ∧
(I64 (b + c)) ∧
((0 : Int) ≤ (IntKind.u64.wrap ((b + c).tmod 64)) ∧ (IntKind.u64.wrap ((b + c).tmod 64)) ≤ 64) ∧
(I64 (b + 1)) ∧
l (bits .or .u64 g (IntKind.u64.wrap (h * 2 ^ (IntKind.u64.wrap ((b + c).tmod 64)).toNat))) (b + 1) n ∧ m (bits .or .u64 g (IntKind.u64.wrap (h * 2 ^ (IntKind.u64.wrap ((b + c).tmod 64)).toNat))) (b + 1) n < m g b i)) ∧
((¬ (b < 64)) →
R (.int .u64 g) i)))
theorem ref01_Turn.ok (d : Int) (f : Int) {R : Value → World → Prop} {w : World} (x : ref01_Turn.vc d f R w) : Calls Tryz.prog 85 #[.int .u64 d, .int .i64 f] w (Ret R) := by
 refine enter [.int .u64 d, .int .i64 f] Tryz.func85 rfl Tryz.ntmps85 rfl ?_
 intro a0 aD
 unfold ref01_Turn.vc at x
 refine wp_seq (wp_region_lit ?_)
 refine sqv aD rfl (r_assign rfl) fun _ aF => sq_end ?_
 have y := aF.kp [(0, .int .u64 d), (1, .int .i64 f)] rfl
 refine then_normal (wp_seq (wp_region_lit ?_))
 refine sqv y rfl (r_move (y.get rfl)) fun _ z => sqv z rfl (r_rem (z.get rfl) rfl (by decide)) fun _ aa => sqv aa rfl (r_assign (aa.get rfl)) fun _ aG => sq_end ?_
 have ab := aG.kp [(0, .int .u64 d), (5, .int .i64 (f.tmod 64))] rfl
 refine then_normal (wp_seq (wp_seq (wp_region_lit ?_)))
 refine sqv ab rfl (r_move (ab.get rfl)) fun _ ad => sqv ad rfl (r_lss (ad.get rfl) rfl) fun _ aH => sq_end ?_
 have o := aH.kp [(0, .int .u64 d), (5, .int .i64 (f.tmod 64)), (11, .bool (decide ((f.tmod 64) < 0)))] rfl
 refine then_normal ?_
 obtain ⟨j, af, aI⟩ := x
 refine wp_meet (fun a w => ∃ c : Int, Ag 30 a [(0, .int .u64 d), (5, .int .i64 c)] ∧ j c w) ?_ ?_
 ·refine wp_cond_split (o.get rfl) (fun hc => ?_) (fun hc => ?_)
  ·have aJ := af.1 (of_decide_eq_true hc)
   clear hc
   refine wp_region_lit ?_
   refine sqv o rfl (r_move (o.get rfl)) fun _ ag => ?_
   obtain ⟨aK, aL⟩ := aJ
   refine sqv ag rfl (r_addI (ag.get rfl) rfl aK) fun _ ah => sqv ah rfl (r_assign (ah.get rfl)) fun _ aM => sq_end ?_
   have aN := aM.kp [(0, .int .u64 d), (5, .int .i64 ((f.tmod 64) + 64))] rfl
   have aO := aN.kp [(0, .int .u64 d), (5, .int .i64 ((f.tmod 64) + 64))] rfl
   exact then_normal ⟨(f.tmod 64) + 64, aO, aL⟩
  ·have aP := af.2 (of_decide_eq_false hc)
   clear hc
   refine wp_skip ?_
   have aQ := o.kp [(0, .int .u64 d), (5, .int .i64 (f.tmod 64))] rfl
   exact then_normal ⟨f.tmod 64, aQ, aP⟩
 ·intro bj k hm
  obtain ⟨c, aR, aS⟩ := hm
  have aT := aI c k aS
  refine then_normal (wp_seq (wp_region_lit ?_))
  refine sqv aR rfl (r_assign rfl) fun _ aU => sq_end ?_
  have aV := aU.kp [(0, .int .u64 d), (5, .int .i64 c), (6, .int .u64 0)] rfl
  refine then_normal (wp_seq (wp_seq (wp_region_lit ?_)))
  refine sqv aV rfl (r_assign rfl) fun _ aX => sq_end ?_
  have aY := aX.kp [(0, .int .u64 d), (5, .int .i64 c), (6, .int .u64 0), (7, .int .i64 0)] rfl
  refine then_normal (wp_block ?_)
  obtain ⟨l, m, aZ, ht83⟩ := aT
  refine wp_loop_st (σ := Int × Int × World) (fun s a w => Ag 30 a [(0, .int .u64 d), (5, .int .i64 c), (6, .int .u64 s.1), (7, .int .i64 s.2.1)] ∧ w = s.2.2 ∧ l s.1 s.2.1 s.2.2) (fun s => m s.1 s.2.1 s.2.2) (0, 0, k) ⟨aY.kp [(0, .int .u64 d), (5, .int .i64 c), (6, .int .u64 0), (7, .int .i64 0)] rfl, rfl, aZ⟩ ?_
  rintro ⟨g, b, i⟩ bk w_ ⟨ai, hw_, a1⟩
  have hw_ : i = w_ := hw_.symm
  subst hw_
  have aj := ht83 g b _ a1
  refine wp_seq (wp_seq (wp_region_lit ?_))
  refine sqv ai rfl (r_move (ai.get rfl)) fun _ ak => sqv ak rfl (r_lss (ak.get rfl) rfl) fun _ a2 => sq_end ?_
  have p := a2.kp [(0, .int .u64 d), (5, .int .i64 c), (6, .int .u64 g), (7, .int .i64 b), (15, .bool (decide (b < 64)))] rfl
  refine then_normal ?_
  refine wp_cond_split (p.get rfl) (fun hc => ?_) (fun hc => ?_)
  ·have a3 := aj.1 (of_decide_eq_true hc)
   clear hc
   refine wp_skip ?_
   refine then_normal (wp_seq (wp_block (wp_region_lit ?_)))
   refine sqv p rfl (r_move (p.get rfl)) fun _ al => sqv al rfl (r_move (al.get rfl)) fun _ am => sqv am rfl (r_move (am.get rfl)) fun _ q => ?_
   refine sq (opk_call q rfl (r_call (args := #[.int .u64 d, .int .i64 b]) Tryz.func131 (by decide) rfl (map_arr (ml_cons (q.get rfl) (ml_cons (q.get rfl) ml_nil))) rfl) a3 fun bl bm n an _ bn bo a4 => ?_)
   obtain ⟨h, rfl, a5⟩ := a4
   refine sqv an rfl (r_move (an.get rfl)) fun _ ao => sqv ao rfl (r_move (ao.get rfl)) fun _ r => ?_
   obtain ⟨a6, a7⟩ := a5
   refine sqv r rfl (r_addI (r.get rfl) (r.get rfl) a6) fun _ ap => sqv ap rfl (r_rem (ap.get rfl) rfl (by decide)) fun _ aq => sqv aq rfl (r_conv (aq.get rfl) rfl tU33) fun _ t => ?_
   obtain ⟨ar, a8⟩ := a7
   refine sqv t rfl (r_shl (t.get rfl) (t.get rfl) ar.1 ar.2) fun _ u => sqv u rfl (r_bor (u.get rfl) (u.get rfl)) fun _ au => sqv au rfl (r_assign (au.get rfl)) fun _ a9 => sq_end ?_
   have av := a9.kp [(0, .int .u64 d), (5, .int .i64 c), (6, .int .u64 (bits .or .u64 g (IntKind.u64.wrap (h * 2 ^ (IntKind.u64.wrap ((b + c).tmod 64)).toNat)))), (7, .int .i64 b)] rfl
   refine block_normal ?_
   refine then_normal (wp_region_lit ?_)
   refine sqv av rfl (r_move (av.get rfl)) fun _ ax => ?_
   obtain ⟨ba, ay⟩ := a8
   refine sqv ax rfl (r_addI (ax.get rfl) rfl ba) fun _ az => sqv az rfl (r_assign (az.get rfl)) fun _ bb => sq_end ?_
   have bd := bb.kp [(0, .int .u64 d), (5, .int .i64 c), (6, .int .u64 (bits .or .u64 g (IntKind.u64.wrap (h * 2 ^ (IntKind.u64.wrap ((b + c).tmod 64)).toNat)))), (7, .int .i64 (b + 1))] rfl
   have bf := bd.kp [(0, .int .u64 d), (5, .int .i64 c), (6, .int .u64 (bits .or .u64 g (IntKind.u64.wrap (h * 2 ^ (IntKind.u64.wrap ((b + c).tmod 64)).toNat)))), (7, .int .i64 (b + 1))] rfl
   exact then_normal ⟨(bits .or .u64 g (IntKind.u64.wrap (h * 2 ^ (IntKind.u64.wrap ((b + c).tmod 64)).toNat)), b + 1, n), ⟨bf, rfl, ay.1⟩, ay.2⟩
  ·have bg := aj.2 (of_decide_eq_false hc)
   clear hc
   refine wp_exit ?_
   refine then_exit ?_
   refine then_exit ?_
   refine block_hit ?_
   have aA := p.kp [(6, .int .u64 g)] rfl
   refine then_normal (wp_seq (wp_region_lit ?_))
   refine sqv aA rfl (r_move (aA.get rfl)) fun _ aB => sqv aB rfl (r_assign (aB.get rfl)) fun _ bh => sq_end ?_
   have aC := bh.kp [(4, .int .u64 g)] rfl
   refine then_normal ?_
   refine wp_ret ?_
   exact res_all (vs := [.int .u64 g]) rfl aC ⟨res_of_tmp aC rfl, trivial⟩ bg
def ref01_bit.vc (b : Int) (a : Int) (R : Value → World → Prop) (w : World) : Prop :=
((0 : Int) ≤ (IntKind.u64.wrap a) ∧ (IntKind.u64.wrap a) ≤ 64) ∧
R (.int .u64 (bits .and .u64 (b / 2 ^ (IntKind.u64.wrap a).toNat) 1)) w
theorem ref01_bit.ok (b : Int) (a : Int) {R : Value → World → Prop} {w : World} (d : ref01_bit.vc b a R w) : Calls Tryz.prog 131 #[.int .u64 b, .int .i64 a] w (Ret R) := by
 refine enter [.int .u64 b, .int .i64 a] Tryz.func131 rfl Tryz.ntmps131 rfl ?_
 intro q m
 unfold ref01_bit.vc at d
 refine wp_seq (wp_region_lit ?_)
 refine sqv m rfl (r_assign rfl) fun _ n => sq_end ?_
 have f := n.kp [(0, .int .u64 b), (1, .int .i64 a)] rfl
 refine then_normal (wp_seq (wp_region_lit ?_))
 refine sqv f rfl (r_move (f.get rfl)) fun _ g => sqv g rfl (r_move (g.get rfl)) fun _ h => sqv h rfl (r_conv (h.get rfl) rfl tU33) fun _ c => ?_
 obtain ⟨i, o⟩ := d
 refine sqv c rfl (r_shr (c.get rfl) (c.get rfl) i.1 i.2) fun _ j => sqv j rfl (r_and (j.get rfl) rfl) fun _ k => sqv k rfl (r_assign (k.get rfl)) fun _ p => sq_end ?_
 have l := p.kp [(4, .int .u64 (bits .and .u64 (b / 2 ^ (IntKind.u64.wrap a).toNat) 1))] rfl
 refine then_normal ?_
 refine wp_ret ?_
 exact res_all (vs := [.int .u64 (bits .and .u64 (b / 2 ^ (IntKind.u64.wrap a).toNat) 1)]) rfl l ⟨res_of_tmp l rfl, trivial⟩ o
end Go.Proofs.YteacalmdpoblpaaGreat
