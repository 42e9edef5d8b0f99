/-
  PRINTED BY PROGRAM: for each function its condition (vc), and that this suffices (ok).
-/
import Derived.Test.YtenokfdkckhhiaaGreatDoorQBuildFostersGT
namespace Go.Proofs.YtenokfdkckhhiaaGreatDoor
open Go.RowKit
set_option linter.unusedVariables false
set_option maxHeartbeats 1000000
set_option maxRecDepth 10000
def ref10_has.vc (c : Str) (a : Int) (b : Str) (R : Value → World → Prop) (w : World) : Prop :=
(((0 ≤ a)) → I64 ((c.length : Int) - a)) ∧
((((0 ≤ a) ∧ ((b.length : Int) ≤ ((c.length : Int) - a)))) → I64 (a + (b.length : Int))) ∧
((((0 ≤ a) ∧ ((b.length : Int) ≤ ((c.length : Int) - a)))) → (0 : Int) ≤ a ∧ (a : Int) ≤ a + (b.length : Int) ∧ a + (b.length : Int) ≤ (c.length : Int)) ∧
∃ (d : Str),((((0 ≤ a) ∧ ((b.length : Int) ≤ ((c.length : Int) - a)))) → Calls Tryz.prog 46 #[.string (Bs ((List.drop a.toNat c).take ((a + (b.length : Int)).toNat - a.toNat)))] w (Ret fun v w' => Ext w w' ∧ v = .string (Bs d))) ∧
(∀ f : World,Ext w f →
R (.bool (((decide (0 ≤ a)) && (decide ((b.length : Int) ≤ ((c.length : Int) - a)))) && (decide (d = b)))) f)
theorem ref10_has.ok (c : Str) (a : Int) (b : Str) {R : Value → World → Prop} {w : World} (o : ref10_has.vc c a b R w) : Calls Tryz.prog 52 #[.string (Bs c),.int .i64 a,.string (Bs b)] w (Ret R) := by
 refine enter [.string (Bs c),.int .i64 a,.string (Bs b)] Tryz.func52 rfl Tryz.ntmps52 rfl ?_
 intro a0 am
 unfold ref10_has.vc at o
 refine wp_seq (wp_region_lit ?_)
 refine sqv am rfl (r_assign rfl) fun _ an => sq_end ?_
 have p := an.kp [(0,.string (Bs c)),(1,.int .i64 a),(2,.string (Bs b))] rfl
 refine then_normal (wp_seq (wp_region_lit ?_))
 refine sqv p rfl (r_move (p.get rfl)) fun _ q => sqv q rfl (r_geq (q.get rfl) rfl) fun _ r => sqv r rfl (r_move (r.get rfl)) fun _ s => ?_
 refine sq (opk_gval s rfl rfl (g := true) (e := (decide (0 ≤ a))) rfl (fun hg => r_move (s.get rfl)) fun a9 t _ => ?_)
 refine sq (opk_gval t rfl rfl (g := true) (e := (decide (0 ≤ a))) rfl (fun hg => r_slen (cv_get (t.get rfl) hg) tU9) fun aD u _ => ?_)
 refine sq (opk_gval u rfl rfl (g := true) (e := (decide (0 ≤ a))) rfl (fun hg => r_move (u.get rfl)) fun aG x _ => ?_)
 refine sq (opk_gval x rfl rfl (g := true) (e := (decide (0 ≤ a))) rfl (fun hg => r_slen (cv_get (x.get rfl) hg) tU9) fun aH y _ => ?_)
 refine sq (opk_gval y rfl rfl (g := true) (e := (decide (0 ≤ a))) rfl (fun hg => r_move (y.get rfl)) fun aI i _ => ?_)
 obtain ⟨ao,ap⟩ := o
 refine sq (opk_gval i rfl rfl (g := true) (e := (decide (0 ≤ a))) rfl (fun hg => r_subI (cv_get (i.get rfl) hg) (cv_get (i.get rfl) hg) (ao (of_decide_eq_true (g_t hg)))) fun aJ j _ => ?_)
 refine sq (opk_gval j rfl rfl (g := true) (e := (decide (0 ≤ a))) rfl (fun hg => r_leq (cv_get (j.get rfl) hg) (cv_get (j.get rfl) hg)) fun aK k _ => ?_)
 refine sqv k rfl (r_pick_and (g := (true && ((decide (0 ≤ a)) == true))) (k.get rfl) (k.get rfl) (fun he => g_mkt rfl he)) fun _ z => sqv z rfl (r_move (z.get rfl)) fun _ aa => ?_
 refine sq (opk_gval aa rfl rfl (g := true) (e := ((decide (0 ≤ a)) && (decide ((b.length : Int) ≤ ((c.length : Int) - a))))) rfl (fun hg => r_move (aa.get rfl)) fun aL ab _ => ?_)
 refine sq (opk_gval ab rfl rfl (g := true) (e := ((decide (0 ≤ a)) && (decide ((b.length : Int) ≤ ((c.length : Int) - a))))) rfl (fun hg => r_move (ab.get rfl)) fun aM ad _ => ?_)
 refine sq (opk_gval ad rfl rfl (g := true) (e := ((decide (0 ≤ a)) && (decide ((b.length : Int) ≤ ((c.length : Int) - a))))) rfl (fun hg => r_move (ad.get rfl)) fun aN af _ => ?_)
 refine sq (opk_gval af rfl rfl (g := true) (e := ((decide (0 ≤ a)) && (decide ((b.length : Int) ≤ ((c.length : Int) - a))))) rfl (fun hg => r_move (af.get rfl)) fun aO ag _ => ?_)
 refine sq (opk_gval ag rfl rfl (g := true) (e := ((decide (0 ≤ a)) && (decide ((b.length : Int) ≤ ((c.length : Int) - a))))) rfl (fun hg => r_slen (cv_get (ag.get rfl) hg) tU9) fun aP l _ => ?_)
 obtain ⟨aq,ar⟩ := ap
 refine sq (opk_gval l rfl rfl (g := true) (e := ((decide (0 ≤ a)) && (decide ((b.length : Int) ≤ ((c.length : Int) - a))))) rfl (fun hg => r_addI (cv_get (l.get rfl) hg) (cv_get (l.get rfl) hg) (aq ⟨(of_decide_eq_true (b_and_t (g_t hg)).1),(of_decide_eq_true (b_and_t (g_t hg)).2)⟩)) fun aQ h _ => ?_)
 obtain ⟨au,av⟩ := ar
 refine sq (opk_gval h rfl rfl (g := true) (e := ((decide (0 ≤ a)) && (decide ((b.length : Int) ≤ ((c.length : Int) - a))))) rfl (fun hg => r_sslice2 (cv_get (h.get rfl) hg) (cv_get (h.get rfl) hg) (cv_get (h.get rfl) hg) tU9 (au ⟨(of_decide_eq_true (b_and_t (g_t hg)).1),(of_decide_eq_true (b_and_t (g_t hg)).2)⟩)) fun aR ah _ => ?_)
 obtain ⟨d,ax,ay⟩ := av
 refine sq (opk_gcall ah rfl rfl (g := true) (e := ((decide (0 ≤ a)) && (decide ((b.length : Int) ≤ ((c.length : Int) - a))))) rfl (fun hg => r_call (args := #[.string (Bs ((List.drop a.toNat c).take ((a + (b.length : Int)).toNat - a.toNat)))]) Tryz.func46 (by decide) rfl (map_arr (ml_cons (cv_get (ah.get rfl) hg) ml_nil)) rfl) (fun hg => ax ⟨(of_decide_eq_true (b_and_t (g_t hg)).1),(of_decide_eq_true (b_and_t (g_t hg)).2)⟩) fun aS f ai _ aj => ?_)
 have aU : Chg [] w f := aj
 have az := ay f aj
 refine sq (opk_gval ai rfl rfl (g := true) (e := ((decide (0 ≤ a)) && (decide ((b.length : Int) ≤ ((c.length : Int) - a))))) rfl (fun hg => r_move (ai.get rfl)) fun aV m _ => ?_)
 refine sq (opk_gval m rfl rfl (g := true) (e := ((decide (0 ≤ a)) && (decide ((b.length : Int) ≤ ((c.length : Int) - a))))) rfl (fun hg => r_seql (cv_get (m.get rfl) hg) (cv_get (m.get rfl) hg)) fun aX n _ => ?_)
 refine sqv n rfl (r_pick_and (g := (true && (((decide (0 ≤ a)) && (decide ((b.length : Int) ≤ ((c.length : Int) - a)))) == true))) (n.get rfl) (n.get rfl) (fun he => g_mkt rfl he)) fun _ ak => sqv ak rfl (r_assign (ak.get rfl)) fun _ aA => sq_end ?_
 have al := aA.kp [(6,.bool (((decide (0 ≤ a)) && (decide ((b.length : Int) ≤ ((c.length : Int) - a)))) && (decide (d = b))))] rfl
 refine then_normal ?_
 refine wp_ret ?_
 exact res_all (vs := [.bool (((decide (0 ≤ a)) && (decide ((b.length : Int) ≤ ((c.length : Int) - a)))) && (decide (d = b)))]) rfl al ⟨res_of_tmp al rfl,trivial⟩ az
def ref10_upto.vc (c : Str) (l : Int) (d : Str) (R : Value → World → Prop) (w : World) : Prop :=
∃ (p : Int → World → Prop) (x : Int → World → Nat),
p l w ∧
(∀ (b : Int) (m : World),p b m →
(((b < (c.length : Int))) → (0 : Int) ≤ b ∧ b < (c.length : Int)) ∧
∃ (q : Bool),(((b < (c.length : Int))) → Calls Tryz.prog 79 #[.int .u8 ((c.getD b.toNat 0).toNat : Int)] m (Ret fun v w' => Ext m w' ∧ v = .bool q)) ∧
(∀ n : World,Ext m n →
(((b < (c.length : Int)) ∧ (q = false)) →
∃ (r : Int → World → Prop) (y : Int → World → Nat),
r 0 n ∧
(∀ (f : Int) (k : World),r f k →
((f < (d.length : Int)) →
∀ (o : World),Chg [] k o →
((0 : Int) ≤ b ∧ b < (c.length : Int)) ∧
((0 : Int) ≤ f ∧ f < (d.length : Int)) ∧
((((c.getD b.toNat 0).toNat : Int) = ((d.getD f.toNat 0).toNat : Int)) →
∀ (i : World),Chg [] o i →
R (.int .i64 b) i) ∧
((¬ (((c.getD b.toNat 0).toNat : Int) = ((d.getD f.toNat 0).toNat : Int))) →
(I64 (f + 1)) ∧
∀ (i : World),Chg [] o i →
r (f + 1) i ∧ y (f + 1) i < y f k)) ∧
((¬ (f < (d.length : Int))) →
(I64 (b + 1)) ∧
p (b + 1) k ∧ x (b + 1) k < x b m))) ∧
(((¬ (b < (c.length : Int))) ∨ (q = true)) →
R (.int .i64 b) n)))
theorem ref10_upto.ok (c : Str) (l : Int) (d : Str) {R : Value → World → Prop} {w : World} (ah : ref10_upto.vc c l d R w) : Calls Tryz.prog 82 #[.string (Bs c),.int .i64 l,.string (Bs d)] w (Ret R) := by
 refine enter [.string (Bs c),.int .i64 l,.string (Bs d)] Tryz.func82 rfl Tryz.ntmps82 rfl ?_
 intro a0 aP
 unfold ref10_upto.vc at ah
 refine wp_seq (wp_region_lit ?_)
 refine sqv aP rfl (r_assign rfl) fun _ aQ => sq_end ?_
 have aR := aQ.kp [(0,.string (Bs c)),(1,.int .i64 l),(2,.string (Bs d))] rfl
 refine then_normal (wp_seq (wp_block ?_))
 obtain ⟨p,x,aS,aU⟩ := ah
 refine wp_loop_st (σ := Int × World) (fun s a w => Ag 36 a [(0,.string (Bs c)),(1,.int .i64 s.1),(2,.string (Bs d))] ∧ w = s.2 ∧ p s.1 s.2) (fun s => x s.1 s.2) (l,w) ⟨aR.kp [(0,.string (Bs c)),(1,.int .i64 l),(2,.string (Bs d))] rfl,rfl,aS⟩ ?_
 rintro ⟨b,m⟩ bO w_ ⟨ai,hw_,aV⟩
 have hw_ : m = w_ := hw_.symm
 subst hw_
 have aX := aU b _ aV
 refine wp_seq (wp_seq (wp_region_lit ?_))
 refine sqv ai rfl (r_move (ai.get rfl)) fun _ aj => sqv aj rfl (r_move (aj.get rfl)) fun _ ak => sqv ak rfl (r_slen (ak.get rfl) tU9) fun _ z => sqv z rfl (r_lss (z.get rfl) (z.get rfl)) fun _ al => sqv al rfl (r_move (al.get rfl)) fun _ am => ?_
 refine sq (opk_gval am rfl rfl (g := true) (e := (decide (b < (c.length : Int)))) rfl (fun hg => r_move (am.get rfl)) fun bP an _ => ?_)
 refine sq (opk_gval an rfl rfl (g := true) (e := (decide (b < (c.length : Int)))) rfl (fun hg => r_move (an.get rfl)) fun bQ aa _ => ?_)
 obtain ⟨aY,aZ⟩ := aX
 refine sq (opk_gval aa rfl rfl (g := true) (e := (decide (b < (c.length : Int)))) rfl (fun hg => r_sindex (cv_get (aa.get rfl) hg) (cv_get (aa.get rfl) hg) tU9 (aY (of_decide_eq_true (g_t hg)))) fun bR ao _ => ?_)
 obtain ⟨q,hc158,a1⟩ := aZ
 refine sq (opk_gcall ao rfl rfl (g := true) (e := (decide (b < (c.length : Int)))) rfl (fun hg => r_call (args := #[.int .u8 ((c.getD b.toNat 0).toNat : Int)]) Tryz.func79 (by decide) rfl (map_arr (ml_cons (cv_get (ao.get rfl) hg) ml_nil)) rfl) (fun hg => hc158 (of_decide_eq_true (g_t hg))) fun bS n ap _ aq => ?_)
 have bT : Chg [] m n := aq
 have ar := a1 n aq
 refine sq (opk_gval ap rfl rfl (g := true) (e := (decide (b < (c.length : Int)))) rfl (fun hg => r_not (cv_get (ap.get rfl) hg)) fun bU ab _ => ?_)
 refine sqv ab rfl (r_pick_and (g := (true && ((decide (b < (c.length : Int))) == true))) (ab.get rfl) (ab.get rfl) (fun he => g_mkt rfl he)) fun _ a2 => sq_end ?_
 have ad := a2.kp [(0,.string (Bs c)),(1,.int .i64 b),(2,.string (Bs d)),(18,.bool ((decide (b < (c.length : Int))) && (!q)))] rfl
 refine then_normal ?_
 refine wp_cond_split (ad.get rfl) (fun hc => ?_) (fun hc => ?_)
 ·have a3 := ar.1 ⟨(of_decide_eq_true (b_and_t hc).1),(b_not_t (b_and_t hc).2)⟩
  clear hc
  refine wp_skip ?_
  refine then_normal (wp_block (wp_seq (wp_seq (wp_region_lit ?_))))
  refine sqv ad rfl (r_assign rfl) fun _ a4 => sq_end ?_
  have a5 := a4.kp [(0,.string (Bs c)),(1,.int .i64 b),(2,.string (Bs d)),(7,.int .i64 0)] rfl
  refine then_normal (wp_block ?_)
  obtain ⟨r,y,a6,a7⟩ := a3
  refine wp_loop_st (σ := Int × World) (fun s a w => Ag 36 a [(0,.string (Bs c)),(1,.int .i64 b),(2,.string (Bs d)),(7,.int .i64 s.1)] ∧ w = s.2 ∧ r s.1 s.2) (fun s => y s.1 s.2) (0,n) ⟨a5.kp [(0,.string (Bs c)),(1,.int .i64 b),(2,.string (Bs d)),(7,.int .i64 0)] rfl,rfl,a6⟩ ?_
  rintro ⟨f,k⟩ bX w_ ⟨au,hw_,a8⟩
  have hw_ : k = w_ := hw_.symm
  subst hw_
  have av := a7 f _ a8
  refine wp_seq (wp_seq (wp_region_lit ?_))
  refine sqv au rfl (r_move (au.get rfl)) fun _ ax => sqv ax rfl (r_move (ax.get rfl)) fun _ ay => sqv ay rfl (r_slen (ay.get rfl) tU9) fun _ af => sqv af rfl (r_lss (af.get rfl) (af.get rfl)) fun _ a9 => sq_end ?_
  have j := a9.kp [(0,.string (Bs c)),(1,.int .i64 b),(2,.string (Bs d)),(7,.int .i64 f),(22,.bool (decide (f < (d.length : Int))))] rfl
  refine then_normal ?_
  refine wp_cond_split (j.get rfl) (fun hc => ?_) (fun hc => ?_)
  ·have ba := av.1 (of_decide_eq_true hc)
   clear hc
   refine wp_skip ?_
   refine then_normal (wp_seq (wp_block (wp_seq ?_)))
   refine draw' (by kernel_rfl) fun o bb => ?_
   have bd : Chg [] k o := bb
   have bf := ba o    bd
   obtain ⟨bg,bi⟩ := bf
   obtain ⟨bj,az⟩ := bi
   refine par (D := [[],[],[0,1],[],[],[3,4],[0,1,2,3,4,5]]) (S := [0,1,2,3,4,5,6]) (F := []) (V := VL [(0,fun v _ => v = .string (Bs c)),(1,fun v _ => v = .int .i64 b),(2,fun v _ => v = .int .u8 ((c.getD b.toNat 0).toNat : Int)),(3,fun v _ => v = .string (Bs d)),(4,fun v _ => v = .int .i64 f),(5,fun v _ => v = .int .u8 ((d.getD f.toNat 0).toNat : Int)),(6,fun v _ => v = .bool (decide (((c.getD b.toNat 0).toNat : Int) = ((d.getD f.toNat 0).toNat : Int))))]) j (by kernel_rfl) ⟨fun _ _ _ _ h => h,fun _ _ _ _ h => h,fun _ _ _ _ h => h,fun _ _ _ _ h => h,fun _ _ _ _ h => h,fun _ _ _ _ h => h,fun _ _ _ _ h => h,trivial⟩ ⟨?_,?_,?_,?_,?_,?_,?_,trivial⟩ ?_
   ·intro a w hT
    have hAp := hT.ag j [(0,.string (Bs c))] ⟨rfl,trivial⟩ (by kernel_rfl)
    exact ovr hAp rfl (r_move (hAp.get rfl)) fun _ => Eq.refl _
   ·intro a w hT
    have hAp := hT.ag j [(1,.int .i64 b)] ⟨rfl,trivial⟩ (by kernel_rfl)
    exact ovr hAp rfl (r_move (hAp.get rfl)) fun _ => Eq.refl _
   ·intro a w hT
    have hAp := hT.ag j [] trivial (by kernel_rfl)
    have hAp := hAp.add (t := 25) (v := .string (Bs c)) (hT.vals 0 rfl 25 rfl)
    have hAp := hAp.add (t := 26) (v := .int .i64 b) (hT.vals 1 rfl 26 rfl)
    exact ovr hAp rfl (r_sindex (hAp.get rfl) (hAp.get rfl) tU9 bg) fun _ => Eq.refl _
   ·intro a w hT
    have hAp := hT.ag j [(2,.string (Bs d))] ⟨rfl,trivial⟩ (by kernel_rfl)
    exact ovr hAp rfl (r_move (hAp.get rfl)) fun _ => Eq.refl _
   ·intro a w hT
    have hAp := hT.ag j [(7,.int .i64 f)] ⟨rfl,trivial⟩ (by kernel_rfl)
    exact ovr hAp rfl (r_move (hAp.get rfl)) fun _ => Eq.refl _
   ·intro a w hT
    have hAp := hT.ag j [] trivial (by kernel_rfl)
    have hAp := hAp.add (t := 28) (v := .string (Bs d)) (hT.vals 3 rfl 28 rfl)
    have hAp := hAp.add (t := 29) (v := .int .i64 f) (hT.vals 4 rfl 29 rfl)
    exact ovr hAp rfl (r_sindex (hAp.get rfl) (hAp.get rfl) tU9 bj) fun _ => Eq.refl _
   ·intro a w hT
    have hAp := hT.ag j [] trivial (by kernel_rfl)
    have hAp := hAp.add (t := 27) (v := .int .u8 ((c.getD b.toNat 0).toNat : Int)) (hT.vals 2 rfl 27 rfl)
    have hAp := hAp.add (t := 30) (v := .int .u8 ((d.getD f.toNat 0).toNat : Int)) (hT.vals 5 rfl 30 rfl)
    exact ovr hAp rfl (r_eql (hAp.get rfl) (hAp.get rfl)) fun _ => Eq.refl _
   ·intro bk i bl bo bp
    have bq := bo [(0,.string (Bs c)),(1,.int .i64 b),(2,.string (Bs d)),(7,.int .i64 f)] ⟨rfl,rfl,rfl,rfl,trivial⟩ (by kernel_rfl)
    have bs : bk.tmps.getD 31 undef = .bool (decide (((c.getD b.toNat 0).toNat : Int) = ((d.getD f.toNat 0).toNat : Int))) := bp 6 rfl 31 rfl
    have bt := bq.add bs
    have aA : Chg [] o i := bl
    refine PR_end (by kernel_rfl) ?_
    have u := bt.kp [(0,.string (Bs c)),(1,.int .i64 b),(2,.string (Bs d)),(7,.int .i64 f),(31,.bool (decide (((c.getD b.toNat 0).toNat : Int) = ((d.getD f.toNat 0).toNat : Int))))] rfl
    refine then_normal ?_
    refine wp_cond_split (u.get rfl) (fun hc => ?_) (fun hc => ?_)
    ·have bu := az.1 (of_decide_eq_true hc)
     clear hc
     refine wp_seq (wp_region_lit ?_)
     refine sqv u rfl (r_move (u.get rfl)) fun _ aB => sqv aB rfl (r_assign (aB.get rfl)) fun _ bv => sq_end ?_
     have aC := bv.kp [(6,.int .i64 b)] rfl
     refine then_normal ?_
     refine wp_ret ?_
     refine block_ret ?_
     refine then_ret ?_
     refine then_ret ?_
     refine block_ret ?_
     refine then_ret ?_
     refine block_ret ?_
     refine then_ret ?_
     refine block_ret ?_
     refine then_ret ?_
     have bx := bu i    aA
     exact res_all (vs := [.int .i64 b]) rfl aC ⟨res_of_tmp aC rfl,trivial⟩ bx
    ·have bz := az.2 (of_decide_eq_false hc)
     clear hc
     refine wp_skip ?_
     refine block_normal ?_
     refine then_normal (wp_region_lit ?_)
     refine sqv u rfl (r_move (u.get rfl)) fun _ aD => ?_
     obtain ⟨bA,bB⟩ := bz
     refine sqv aD rfl (r_addI (aD.get rfl) rfl bA) fun _ aG => sqv aG rfl (r_assign (aG.get rfl)) fun _ bC => sq_end ?_
     have bD := bC.kp [(0,.string (Bs c)),(1,.int .i64 b),(2,.string (Bs d)),(7,.int .i64 (f + 1))] rfl
     have aH := bB i    aA
     have bF := bD.kp [(0,.string (Bs c)),(1,.int .i64 b),(2,.string (Bs d)),(7,.int .i64 (f + 1))] rfl
     exact then_normal ⟨(f + 1,i),⟨bF,rfl,aH.1⟩,aH.2⟩
  ·have bG := av.2 (of_decide_eq_false hc)
   clear hc
   refine wp_exit ?_
   refine then_exit ?_
   refine then_exit ?_
   refine block_hit ?_
   have aI := j.kp [(0,.string (Bs c)),(1,.int .i64 b),(2,.string (Bs d))] rfl
   refine then_normal (wp_region_lit ?_)
   refine sqv aI rfl (r_move (aI.get rfl)) fun _ aJ => ?_
   obtain ⟨bH,aK⟩ := bG
   refine sqv aJ rfl (r_addI (aJ.get rfl) rfl bH) fun _ aL => sqv aL rfl (r_assign (aL.get rfl)) fun _ bI => sq_end ?_
   have bJ := bI.kp [(0,.string (Bs c)),(1,.int .i64 (b + 1)),(2,.string (Bs d))] rfl
   refine block_normal ?_
   have bK := bJ.kp [(0,.string (Bs c)),(1,.int .i64 (b + 1)),(2,.string (Bs d))] rfl
   exact then_normal ⟨(b + 1,k),⟨bK,rfl,aK.1⟩,aK.2⟩
 ·have bL := ar.2 ((b_and_f hc).imp (fun h => (of_decide_eq_false h)) (fun h => (b_not_f h)))
  clear hc
  refine wp_exit ?_
  refine then_exit ?_
  refine then_exit ?_
  refine block_hit ?_
  have aM := ad.kp [(1,.int .i64 b)] rfl
  refine then_normal (wp_seq (wp_region_lit ?_))
  refine sqv aM rfl (r_move (aM.get rfl)) fun _ aN => sqv aN rfl (r_assign (aN.get rfl)) fun _ bM => sq_end ?_
  have aO := bM.kp [(6,.int .i64 b)] rfl
  refine then_normal ?_
  refine wp_ret ?_
  exact res_all (vs := [.int .i64 b]) rfl aO ⟨res_of_tmp aO rfl,trivial⟩ bL
end Go.Proofs.YtenokfdkckhhiaaGreatDoor
