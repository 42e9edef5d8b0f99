/-
  PRINTED BY PROGRAM: for each function its condition (vc), and that this suffices (ok).
-/
import Derived.Test.YteacalmdpoblpaaGreatQCodecBaseGT
namespace Go.Proofs.YteacalmdpoblpaaGreat
open Go.RowKit
set_option linter.unusedVariables false
set_option maxHeartbeats 1000000
set_option maxRecDepth 10000
def law00_Place.vc (b : Int) (a : Int) (R : Value → World → Prop) (w : World) : Prop :=
(a ≠ 0) ∧
(((b.tmod a) < 0) →
(I64 ((b.tmod a) + a)) ∧
R (.int .i64 ((b.tmod a) + a)) w) ∧
((¬ ((b.tmod a) < 0)) →
R (.int .i64 (b.tmod a)) w)
theorem law00_Place.ok (b : Int) (a : Int) {R : Value → World → Prop} {w : World} (g : law00_Place.vc b a R w) : Calls Tryz.prog 10 #[.int .i64 b, .int .i64 a] w (Ret R) := by
 refine enter [.int .i64 b, .int .i64 a] Tryz.func10 rfl Tryz.ntmps10 rfl ?_
 intro a0 u
 unfold law00_Place.vc at g
 refine wp_seq (wp_region_lit ?_)
 refine sqv u rfl (r_assign rfl) fun _ v => sq_end ?_
 have h := v.kp [(0, .int .i64 b), (1, .int .i64 a)] rfl
 refine then_normal (wp_seq (wp_region_lit ?_))
 refine sqv h rfl (r_move (h.get rfl)) fun _ i => sqv i rfl (r_move (i.get rfl)) fun _ d => ?_
 obtain ⟨x, j⟩ := g
 refine sqv d rfl (r_rem (d.get rfl) (d.get rfl) x) fun _ k => sqv k rfl (r_assign (k.get rfl)) fun _ y => sq_end ?_
 have l := y.kp [(1, .int .i64 a), (5, .int .i64 (b.tmod a))] rfl
 refine then_normal (wp_seq (wp_seq (wp_region_lit ?_)))
 refine sqv l rfl (r_move (l.get rfl)) fun _ m => sqv m rfl (r_lss (m.get rfl) rfl) fun _ z => sq_end ?_
 have c := z.kp [(1, .int .i64 a), (5, .int .i64 (b.tmod a)), (10, .bool (decide ((b.tmod a) < 0)))] rfl
 refine then_normal ?_
 refine wp_cond_split (c.get rfl) (fun hc => ?_) (fun hc => ?_)
 ·have aa := j.1 (of_decide_eq_true hc)
  clear hc
  refine wp_region_lit ?_
  refine sqv c rfl (r_move (c.get rfl)) fun _ n => sqv n rfl (r_move (n.get rfl)) fun _ f => ?_
  obtain ⟨ab, ad⟩ := aa
  refine sqv f rfl (r_addI (f.get rfl) (f.get rfl) ab) fun _ o => sqv o rfl (r_assign (o.get rfl)) fun _ af => sq_end ?_
  have p := af.kp [(5, .int .i64 ((b.tmod a) + a))] rfl
  refine then_normal (wp_seq (wp_region_lit ?_))
  refine sqv p rfl (r_move (p.get rfl)) fun _ q => sqv q rfl (r_assign (q.get rfl)) fun _ ag => sq_end ?_
  have r := ag.kp [(4, .int .i64 ((b.tmod a) + a))] rfl
  refine then_normal ?_
  refine wp_ret ?_
  exact res_all (vs := [.int .i64 ((b.tmod a) + a)]) rfl r ⟨res_of_tmp r rfl, trivial⟩ ad
 ·have ah := j.2 (of_decide_eq_false hc)
  clear hc
  refine wp_skip ?_
  refine then_normal (wp_seq (wp_region_lit ?_))
  refine sqv c rfl (r_move (c.get rfl)) fun _ s => sqv s rfl (r_assign (s.get rfl)) fun _ ai => sq_end ?_
  have t := ai.kp [(4, .int .i64 (b.tmod a))] rfl
  refine then_normal ?_
  refine wp_ret ?_
  exact res_all (vs := [.int .i64 (b.tmod a)]) rfl t ⟨res_of_tmp t rfl, trivial⟩ ah
def law00_Grown.vc (k : Sl) (R : Value → World → Prop) (w : World) : Prop :=
∀ (o : World) (d : Nat) (f : Nat) (j : Nat) (b : Nat), New w d o → New w f o → New w j o → New w b o → d ≠ f → d ≠ j → d ≠ b → f ≠ j → f ≠ b → j ≠ b → Chg [] w o →
∀ (_ : Box o f 3 [.int .i64 0]),
CallK Tryz.prog 41 #[Sl.v k, .pointer (some (⟨f, 0, none⟩ : Addr))] o [d, j, b] (fun v au => ∃ (ah : Int), v = .int .i64 ah ∧
∀ (_ : Box au j 3 [.int .i64 0]),
∃ (an : Int → Sl → World → Prop) (av : Int → Sl → World → Nat),
an (ah.tmod 4) Sl.nil au ∧
(∀ (l : Int) (n : Sl) (p : World), an l n p →
∃ (ai : Int), (((0 ≤ l)) → p.cell? (⟨j, 0, none⟩ : Addr) = some (.int .i64 ai)) ∧
(((0 ≤ l) ∧ (ai < 40)) →
∀ (ao : World), Chg [] p ao →
CallK Tryz.prog 42 #[Sl.v k, .pointer (some (⟨f, 0, none⟩ : Addr)), .pointer (some (⟨j, 0, none⟩ : Addr)), .int .i64 1] ao [d, b] (fun v ap => ∃ (q : Int) (r : Str) (t : Str) (u : Sl) (x : Sl), v = .agg #[.int .i64 q, .string (Bs r), .string (Bs t), Sl.v u, Sl.v x] ∧
∀ (aa : World) (m : Nat), Ext ap aa → ap.heap.size ≤ m → Box aa m 39 [.int .i64 q, .string (Bs r), .string (Bs t), Sl.v u, Sl.v x] → 
∀ (aj : World), Chg [] aa aj →
∀ (_ : Box aj m 39 [.int .i64 q, .string (Bs r), .string (Bs t), Sl.v u, Sl.v x]),
RunK Tryz.prog (Builtin.append_ #[37, 37] 37 #[Sl.v n, Sl.v (Sl.mk (some ⟨m, 0, none⟩) 1 1)]) aj [d, b] (fun v aD => ∃ (y : Sl), v = Sl.v y ∧
(I64 (l - 1)) ∧
∀ (ab : World), Chg [b] aD ab →
an (l - 1) y ab ∧ av (l - 1) y ab < av l n p))) ∧
(((¬ (0 ≤ l)) ∨ (¬ (ai < 40))) →
∀ (ak : World), Chg [d] p ak →
R (.agg #[.int .i64 1, .string (Bs []), .string (Bs []), Sl.v Sl.nil, Sl.v n]) ak)))
theorem law00_Grown.ok (k : Sl) {R : Value → World → Prop} {w : World} (aV : law00_Grown.vc k R w) : Calls Tryz.prog 15 #[Sl.v k] w (Ret R) := by
 refine enter [Sl.v k] Tryz.func15 rfl Tryz.ntmps15 rfl ?_
 intro a0 bO
 unfold law00_Grown.vc at aV
 refine wp_seq (wp_region_lit ?_)
 refine sq (opk_new (fun B => .pointer (some ⟨B, 0, none⟩)) bO rfl (r_alloc (cs := [.int .i64 0, .string (Bs []), .string (Bs []), Sl.v Sl.nil, Sl.v Sl.nil]) ti_39 rfl) fun a4 w3 d bP bQ aY bR _ => ?_)
 have bS : New w d w3 := bQ
 have aZ : Chg [] w w3 := bP
 refine sq_end ?_
 have bT := bR.kp [(0, Sl.v k), (2, .pointer (some (⟨d, 0, none⟩ : Addr)))] rfl
 refine then_normal (wp_seq (wp_region_lit ?_))
 refine sq (opk_new (fun B => .pointer (some ⟨B, 0, none⟩)) bT rfl (r_alloc (cs := [.int .i64 0]) ti_3 rfl) fun d2 d3 f aF hN15 a1 bU _ => ?_)
 have a2 : d ≠ f := Nat.ne_of_lt (Nat.lt_of_lt_of_le aY.lt hN15.ge)
 have bV := New.of aZ hN15
 have a3 := aY.ext aF
 have hC20 := aZ.more aF
 have bX := bS.up aF.size
 refine sq (opk_new (fun B => .pointer (some ⟨B, 0, none⟩)) bU rfl (r_alloc (cs := [.int .i64 0]) ti_3 rfl) fun d4 d5 j aq aG bY a5 _ => ?_)
 have a6 : d ≠ j := Nat.ne_of_lt (Nat.lt_of_lt_of_le a3.lt aG.ge)
 have aH : f ≠ j := Nat.ne_of_lt (Nat.lt_of_lt_of_le a1.lt aG.ge)
 have bZ := New.of hC20 aG
 have b0 := a3.ext aq
 have a7 := a1.ext aq
 have b1 := hC20.more aq
 have b2 := bX.up aq.size
 have a8 := bV.up aq.size
 refine sq (opk_store a5 a7 (r_store (vs := [.int .i64 0]) (a5.get rfl) rfl rfl ti_3 a7 rfl (ones_all _ rfl)) fun d6 b3 al b4 a9 => ?_)
 have b5 : Box b3 f 3 [.int .i64 0] := b4
 have b6 := b0.keep al (by simpa using a2)
 have ba := bY.keep al (by simpa using aH.symm)
 have b7 := b1.storeNew a8 al
 have b8 := b2.up al.size
 have b9 := a8.up al.size
 have bb := bZ.up al.size
 refine sq (opk_store a9 ba (r_store (vs := [.int .i64 0]) (a9.get rfl) rfl rfl ti_3 ba rfl (ones_all _ rfl)) fun d7 ca am cb cc => ?_)
 have bd : Box ca j 3 [.int .i64 0] := cb
 have bf := b6.keep am (by simpa using a6)
 have bg := b5.keep am (by simpa using aH)
 have bh := b7.storeNew bb am
 have cd := b8.up am.size
 have cf := b9.up am.size
 have cg := bb.up am.size
 refine sq_end ?_
 have ch := cc.kp [(0, Sl.v k), (2, .pointer (some (⟨d, 0, none⟩ : Addr))), (3, .pointer (some (⟨f, 0, none⟩ : Addr))), (4, .pointer (some (⟨j, 0, none⟩ : Addr)))] rfl
 refine then_normal (wp_seq (wp_region_lit ?_))
 refine sqv ch rfl (r_build (vs := #[(0, .int .i64 1)]) (cells := #[.int .i64 1, .string (Bs []), .string (Bs []), Sl.v Sl.nil, Sl.v Sl.nil]) (map_arr2 (ml2_cons rfl (ml2_nil))) ti_39 Tryz.underlying39 pl_39 (by kernel_rfl)) fun _ ci => ?_
 refine sq (opk_new (fun B => .pointer (some ⟨B, 0, none⟩)) ci rfl (r_alloc (cs := [.int .i64 0, .string (Bs []), .string (Bs []), Sl.v Sl.nil, Sl.v Sl.nil]) ti_39 rfl) fun d8 d9 b ad ax bi aI _ => ?_)
 have ay : d ≠ b := Nat.ne_of_lt (Nat.lt_of_lt_of_le bf.lt ax.ge)
 have bj : f ≠ b := Nat.ne_of_lt (Nat.lt_of_lt_of_le bg.lt ax.ge)
 have bk : j ≠ b := Nat.ne_of_lt (Nat.lt_of_lt_of_le bd.lt ax.ge)
 have bl := New.of bh ax
 have cj := bf.ext ad
 have ck := bg.ext ad
 have cl := bd.ext ad
 have cm := bh.more ad
 have cn := cd.up ad.size
 have co := cf.up ad.size
 have cp := cg.up ad.size
 refine sq (opk_store aI bi (r_store (vs := [.int .i64 1, .string (Bs []), .string (Bs []), Sl.v Sl.nil, Sl.v Sl.nil]) (aI.get rfl) (aI.get rfl) rfl ti_39 bi rfl (ones_all _ rfl)) fun fa o z cq cr => ?_)
 have ct : Box o b 39 [.int .i64 1, .string (Bs []), .string (Bs []), Sl.v Sl.nil, Sl.v Sl.nil] := cq
 have cu := cj.keep z (by simpa using ay)
 have cv := ck.keep z (by simpa using bj)
 have cx := cl.keep z (by simpa using bk)
 have cy := cm.storeNew bl z
 have cz := cn.up z.size
 have cA := co.up z.size
 have cB := cp.up z.size
 have cC := bl.up z.size
 refine sq_end ?_
 have bm := cr.kp [(0, Sl.v k), (2, .pointer (some (⟨d, 0, none⟩ : Addr))), (3, .pointer (some (⟨f, 0, none⟩ : Addr))), (4, .pointer (some (⟨j, 0, none⟩ : Addr))), (5, .pointer (some (⟨b, 0, none⟩ : Addr)))] rfl
 refine then_normal (wp_seq (wp_seq (wp_region_lit ?_)))
 refine sqv bm rfl (r_move (bm.get rfl)) fun _ aJ => ?_
 have cD := aV o d f j b cz cA cB cC a2 a6 ay aH bj bk cy
 have cF := cD cv
 refine sq (opk_call aJ rfl (r_call (args := #[Sl.v k, .pointer (some (⟨f, 0, none⟩ : Addr))]) Tryz.func41 (by decide) rfl (map_arr (ml_cons (aJ.get rfl) (ml_cons (aJ.get rfl) ml_nil))) rfl) cF fun fb fc au bn _ aK fd cG => ?_)
 obtain ⟨ah, rfl, cH⟩ := cG
 have cI := cu.kept aK (.head _)
 have cJ := cx.kept aK (.tail _ (.head _))
 have cK := ct.kept aK (.tail _ (.tail _ (.head _)))
 refine sqv bn rfl (r_rem (bn.get rfl) rfl (by decide)) fun _ bo => sqv bo rfl (r_assign (bo.get rfl)) fun _ cL => sq_end ?_
 have cM := cL.kp [(0, Sl.v k), (2, .pointer (some (⟨d, 0, none⟩ : Addr))), (3, .pointer (some (⟨f, 0, none⟩ : Addr))), (4, .pointer (some (⟨j, 0, none⟩ : Addr))), (5, .pointer (some (⟨b, 0, none⟩ : Addr))), (6, .int .i64 (ah.tmod 4))] rfl
 refine then_normal (wp_block ?_)
 have cN := cH cJ
 obtain ⟨an, av, cO, cP⟩ := cN
 refine wp_loop_st (σ := Int × Sl × World) (fun s a w => Ag 27 a [(0, Sl.v k), (2, .pointer (some (⟨d, 0, none⟩ : Addr))), (3, .pointer (some (⟨f, 0, none⟩ : Addr))), (4, .pointer (some (⟨j, 0, none⟩ : Addr))), (5, .pointer (some (⟨b, 0, none⟩ : Addr))), (6, .int .i64 s.1)] ∧ Box w d 39 [.int .i64 0, .string (Bs []), .string (Bs []), Sl.v Sl.nil, Sl.v Sl.nil] ∧ Box w b 39 [.int .i64 1, .string (Bs []), .string (Bs []), Sl.v Sl.nil, Sl.v s.2.1] ∧ w = s.2.2 ∧ an s.1 s.2.1 s.2.2) (fun s => av s.1 s.2.1 s.2.2) (ah.tmod 4, Sl.nil, au) ⟨cM.kp [(0, Sl.v k), (2, .pointer (some (⟨d, 0, none⟩ : Addr))), (3, .pointer (some (⟨f, 0, none⟩ : Addr))), (4, .pointer (some (⟨j, 0, none⟩ : Addr))), (5, .pointer (some (⟨b, 0, none⟩ : Addr))), (6, .int .i64 (ah.tmod 4))] rfl, cI, cK, rfl, cO⟩ ?_
 rintro ⟨l, n, p⟩ ff w_ ⟨bp, aL, aM, hw_, cQ⟩
 have hw_ : p = w_ := hw_.symm
 subst hw_
 have cR := cP l n _ cQ
 refine wp_seq (wp_seq (wp_region_lit ?_))
 refine sqv bp rfl (r_move (bp.get rfl)) fun _ bq => sqv bq rfl (r_geq (bq.get rfl) rfl) fun _ br => sqv br rfl (r_move (br.get rfl)) fun _ bs => ?_
 obtain ⟨ai, cS, bt⟩ := cR
 refine sq (opk_gval bs rfl rfl (g := true) (e := (decide (0 ≤ l))) rfl (fun hg => r_load1 tU3 rfl (bs.get rfl) (cS (of_decide_eq_true (g_t hg)))) fun fg bu _ => ?_)
 refine sq (opk_gval bu rfl rfl (g := true) (e := (decide (0 ≤ l))) rfl (fun hg => r_lss (cv_get (bu.get rfl) hg) rfl) fun fh aN _ => ?_)
 refine sqv aN rfl (r_pick_and (g := (true && ((decide (0 ≤ l)) == true))) (aN.get rfl) (aN.get rfl) (fun he => g_mkt rfl he)) fun _ cT => sq_end ?_
 have af := cT.kp [(0, Sl.v k), (2, .pointer (some (⟨d, 0, none⟩ : Addr))), (3, .pointer (some (⟨f, 0, none⟩ : Addr))), (4, .pointer (some (⟨j, 0, none⟩ : Addr))), (5, .pointer (some (⟨b, 0, none⟩ : Addr))), (6, .int .i64 l), (16, .bool ((decide (0 ≤ l)) && (decide (ai < 40))))] rfl
 refine then_normal ?_
 refine wp_cond_split (af.get rfl) (fun hc => ?_) (fun hc => ?_)
 ·have cU := bt.1 ⟨(of_decide_eq_true (b_and_t hc).1), (of_decide_eq_true (b_and_t hc).2)⟩
  clear hc
  refine wp_skip ?_
  refine then_normal (wp_seq (wp_block ?_))
  refine draw' (by kernel_rfl) fun ao aO => ?_
  have cX := aL.ext aO
  have bv := aM.ext aO
  have cY : Chg [] p ao := aO
  have cZ := cU ao    cY
  refine startF (D := [[], [0], [], [2], [2, 3], [0, 1, 2, 3, 4], [0, 1, 2, 3, 4, 5], [0, 1, 2, 3, 4, 5, 6]]) (Fs := [0, 1, 2]) (Ef := [(0, fun v _ => v = .pointer (some (⟨b, 4, none⟩ : Addr))), (1, fun v _ => v = Sl.v n), (2, fun v _ => v = Sl.v k)]) (by kernel_rfl) ?_
  refine oneF (c := 3) af rfl (by kernel_rfl) (constF ⟨fun _ _ _ h => h, fun _ _ _ h => h, fun _ _ _ h => h, trivial⟩) ⟨?_, ?_, ?_, trivial⟩ ?_
  ·intro a hT
   have hAp := hT.ag af [(5, .pointer (some (⟨b, 0, none⟩ : Addr)))] ⟨rfl, trivial⟩ (by kernel_rfl)
   exact opk_val hAp rfl (r_fieldAddr (hAp.get rfl) Tryz.underlying39 rfl ti_37 (by decide)) fun _ _ e => ⟨_, e, rfl, fun _ => Eq.refl _⟩
  ·intro a hT
   have hAp := hT.ag af [] trivial (by kernel_rfl)
   have c0 : a.tmps.getD 19 undef = .pointer (some (⟨b, 4, none⟩ : Addr)) := hT.vals 0 rfl 19 rfl
   have hAp := hAp.add c0
   exact opk_val hAp rfl (r_load1 tU37 rfl (hAp.get rfl) ((bv.ext hT.chg).cell 4 _ rfl)) fun _ _ e => ⟨_, e, rfl, fun _ => Eq.refl _⟩
  ·intro a hT
   have hAp := hT.ag af [(0, Sl.v k)] ⟨rfl, trivial⟩ (by kernel_rfl)
   exact opk_val hAp rfl (r_move (hAp.get rfl)) fun _ _ e => ⟨_, e, rfl, fun _ => Eq.refl _⟩
  ·intro c1 hT
   have c2 := hT.ag af [(0, Sl.v k), (2, .pointer (some (⟨d, 0, none⟩ : Addr))), (3, .pointer (some (⟨f, 0, none⟩ : Addr))), (4, .pointer (some (⟨j, 0, none⟩ : Addr))), (5, .pointer (some (⟨b, 0, none⟩ : Addr))), (6, .int .i64 l), (16, .bool ((decide (0 ≤ l)) && (decide (ai < 40))))] ⟨rfl, rfl, rfl, rfl, rfl, rfl, rfl, trivial⟩ (by kernel_rfl)
   have c3 : c1.tmps.getD 21 undef = Sl.v k := hT.vals 2 rfl 21 rfl
   have az := c2.add c3
   refine (opk_call az rfl (r_call (args := #[Sl.v k, .pointer (some (⟨f, 0, none⟩ : Addr)), .pointer (some (⟨j, 0, none⟩ : Addr)), .int .i64 1]) Tryz.func42 (by decide) rfl (map_arr (ml_cons (az.get rfl) (ml_cons (az.get rfl) (ml_cons (az.get rfl) (ml_cons rfl ml_nil))))) rfl) cZ fun fi fj ap ar c4 bx fk c5 => ?_)
   refine ⟨_, c4, ?_⟩
   obtain ⟨q, r, t, u, x, rfl, c6⟩ := c5
   have bz := cX.kept bx (.head _)
   have aP := bv.kept bx (.tail _ (.head _))
   refine parF (D := [[], [0], [], [2], [2, 3], [0, 1, 2, 3, 4], [0, 1, 2, 3, 4, 5], [0, 1, 2, 3, 4, 5, 6]]) (S := [4]) (F := []) (KE := [4]) (E := [(4, fun v w' => ∃ m : Nat, ap.heap.size ≤ m ∧ Box w' m 39 [.int .i64 q, .string (Bs r), .string (Bs t), Sl.v u, Sl.v x] ∧ v = Sl.v (Sl.mk (some ⟨m, 0, none⟩) 1 1))]) ar rfl (by kernel_rfl) ⟨fun _ _ _ hE ⟨m, h0_, h1_, e⟩ => ⟨m, h0_, (h1_.ext hE), e⟩, fun _ _ _ _ h => h, fun _ _ _ _ h => h, fun _ _ _ _ h => h, trivial⟩ ⟨?_, ?_, ?_, ?_, trivial⟩ ?_
   ·intro a w hT
    have hAp := hT.ag ar [(22, .agg #[.int .i64 q, .string (Bs r), .string (Bs t), Sl.v u, Sl.v x])] ⟨rfl, trivial⟩ (by kernel_rfl)
    exact opk_new (fun B => .slice (some ⟨B, 0, none⟩) 1 1) hAp rfl (r_buildSlice (vs := #[(0, .agg #[.int .i64 q, .string (Bs r), .string (Bs t), Sl.v u, Sl.v x])]) (cs := [.int .i64 q, .string (Bs r), .string (Bs t), Sl.v u, Sl.v x]) (map_arr2 (ml2_cons (hAp.get rfl) (ml2_nil))) tU37 ti_39 rfl rfl (by kernel_rfl)) fun _ fl m c7 c8 c9 _ e => ⟨_, e, c7, fun _ => ⟨m, Nat.le_trans hT.chg.size c8.ge, c9, rfl⟩⟩
   ·intro a w hT
    have hAp := hT.ag ar [(5, .pointer (some (⟨b, 0, none⟩ : Addr)))] ⟨rfl, trivial⟩ (by kernel_rfl)
    exact ovr hAp rfl (r_fieldAddr (hAp.get rfl) Tryz.underlying39 rfl ti_37 (by decide)) fun _ => Eq.refl _
   ·intro a w hT
    have hAp := hT.ag ar [] trivial (by kernel_rfl)
    have da : a.tmps.getD 19 undef = .pointer (some (⟨b, 4, none⟩ : Addr)) := hT.vals 0 rfl 19 rfl
    have hAp := hAp.add da
    exact ovr hAp rfl (r_load1 tU37 rfl (hAp.get rfl) ((aP.ext hT.chg).cell 4 _ rfl)) fun _ => Eq.refl _
   ·intro a w hT
    have hAp := hT.ag ar [(0, Sl.v k)] ⟨rfl, trivial⟩ (by kernel_rfl)
    exact ovr hAp rfl (r_move (hAp.get rfl)) fun _ => Eq.refl _
   ·intro fm aa aA db dc
    have dd := db [(0, Sl.v k), (2, .pointer (some (⟨d, 0, none⟩ : Addr))), (3, .pointer (some (⟨f, 0, none⟩ : Addr))), (4, .pointer (some (⟨j, 0, none⟩ : Addr))), (5, .pointer (some (⟨b, 0, none⟩ : Addr))), (6, .int .i64 l)] ⟨rfl, rfl, rfl, rfl, rfl, rfl, trivial⟩ (by kernel_rfl)
    obtain ⟨m, aQ, bA, df⟩ := dc 4 rfl 23 rfl
    have aB := dd.add df
    have dg := bz.ext aA
    have bB := aP.ext aA
    have fn : Chg [] ap aa := aA
    have dh := c6 aa m aA aQ bA
    have fo : d ≠ m := Nat.ne_of_lt (Nat.lt_of_lt_of_le bz.lt aQ)
    have fp : b ≠ m := Nat.ne_of_lt (Nat.lt_of_lt_of_le aP.lt aQ)
    refine joinF aB (by kernel_rfl) ⟨fun _ _ _ _ h => h, fun _ _ _ _ h => h, fun _ _ _ _ h => h, trivial⟩ ⟨?_, ?_, ?_, trivial⟩ ?_
    ·intro a w hT
     have hAp := hT.ag aB [(5, .pointer (some (⟨b, 0, none⟩ : Addr)))] ⟨rfl, trivial⟩ (by kernel_rfl)
     exact ovr hAp rfl (r_fieldAddr (hAp.get rfl) Tryz.underlying39 rfl ti_37 (by decide)) fun _ => Eq.refl _
    ·intro a w hT
     have hAp := hT.ag aB [] trivial (by kernel_rfl)
     have di : a.tmps.getD 19 undef = .pointer (some (⟨b, 4, none⟩ : Addr)) := hT.vals 0 rfl 19 rfl
     have hAp := hAp.add di
     exact ovr hAp rfl (r_load1 tU37 rfl (hAp.get rfl) ((bB.ext hT.chg).cell 4 _ rfl)) fun _ => Eq.refl _
    ·intro a w hT
     have hAp := hT.ag aB [(0, Sl.v k)] ⟨rfl, trivial⟩ (by kernel_rfl)
     exact ovr hAp rfl (r_move (hAp.get rfl)) fun _ => Eq.refl _
    ·intro dj aj aC dk dl
     have dm := dk [(0, Sl.v k), (2, .pointer (some (⟨d, 0, none⟩ : Addr))), (3, .pointer (some (⟨f, 0, none⟩ : Addr))), (4, .pointer (some (⟨j, 0, none⟩ : Addr))), (5, .pointer (some (⟨b, 0, none⟩ : Addr))), (6, .int .i64 l), (23, Sl.v (Sl.mk (some ⟨m, 0, none⟩) 1 1))] ⟨rfl, rfl, rfl, rfl, rfl, rfl, rfl, trivial⟩ (by kernel_rfl)
     have dn : dj.tmps.getD 20 undef = Sl.v n := dl 1 rfl 20 rfl
     have aR := dm.add dn
     have dp := dg.ext aC
     have dq := bB.ext aC
     have dr := bA.ext aC
     have ds : Chg [] aa aj := aC
     have dt := dh aj    ds
     have du := dt dr
     refine one (D := [[], [0], [], [2], [2, 3], [0, 1, 2, 3, 4], [0, 1, 2, 3, 4, 5], [0, 1, 2, 3, 4, 5, 6]]) (i := 5) rfl (by kernel_rfl) (opk_run aR rfl (fun _ _ hr => r_append (aR.get rfl) (aR.get rfl) hr) du fun fq fr aD bC _ bD fs dv => ?_)
     obtain ⟨y, rfl, dx⟩ := dv
     have dy := dp.kept bD (.head _)
     have dz := dq.kept bD (.tail _ (.head _))
     refine par (D := [[], [0], [], [2], [2, 3], [0, 1, 2, 3, 4], [0, 1, 2, 3, 4, 5], [0, 1, 2, 3, 4, 5, 6]]) (S := [6]) (F := []) (V := VL [(6, fun v _ => v = .pointer (some (⟨b, 4, none⟩ : Addr)))]) bC (by kernel_rfl) ⟨fun _ _ _ _ h => h, trivial⟩ ⟨?_, trivial⟩ ?_
     ·intro a w hT
      have hAp := hT.ag bC [(5, .pointer (some (⟨b, 0, none⟩ : Addr)))] ⟨rfl, trivial⟩ (by kernel_rfl)
      exact ovr hAp rfl (r_fieldAddr (hAp.get rfl) Tryz.underlying39 rfl ti_37 (by decide)) fun _ => Eq.refl _
     ·intro dA dB aS dC dD
      have dF := dC [(0, Sl.v k), (2, .pointer (some (⟨d, 0, none⟩ : Addr))), (3, .pointer (some (⟨f, 0, none⟩ : Addr))), (4, .pointer (some (⟨j, 0, none⟩ : Addr))), (5, .pointer (some (⟨b, 0, none⟩ : Addr))), (6, .int .i64 l), (24, Sl.v y)] ⟨rfl, rfl, rfl, rfl, rfl, rfl, rfl, trivial⟩ (by kernel_rfl)
      have dG : dA.tmps.getD 25 undef = .pointer (some (⟨b, 4, none⟩ : Addr)) := dD 6 rfl 25 rfl
      have aT := dF.add dG
      have dH := dy.ext aS
      have bF := dz.ext aS
      have dI : Chg [] aD dB := aS
      refine one (D := [[], [0], [], [2], [2, 3], [0, 1, 2, 3, 4], [0, 1, 2, 3, 4, 5], [0, 1, 2, 3, 4, 5, 6]]) (i := 7) rfl (by kernel_rfl) (opk_store aT bF (r_store (vs := [Sl.v y]) (aT.get rfl) (aT.get rfl) rfl ti_37 bF rfl (ones_all _ rfl)) fun ft ab bG dJ dK => ?_)
      have dL : Box ab b 39 [.int .i64 1, .string (Bs []), .string (Bs []), Sl.v Sl.nil, Sl.v y] := dJ
      have dM := dH.keep bG (by simpa using ay)
      have dN := dI.storeOld bG
      refine PR_end (by kernel_rfl) ?_
      have bH := dK.kp [(0, Sl.v k), (2, .pointer (some (⟨d, 0, none⟩ : Addr))), (3, .pointer (some (⟨f, 0, none⟩ : Addr))), (4, .pointer (some (⟨j, 0, none⟩ : Addr))), (5, .pointer (some (⟨b, 0, none⟩ : Addr))), (6, .int .i64 l)] rfl
      refine block_normal ?_
      refine then_normal (wp_region_lit ?_)
      refine sqv bH rfl (r_move (bH.get rfl)) fun _ bI => ?_
      obtain ⟨dO, dP⟩ := dx
      refine sqv bI rfl (r_subI (bI.get rfl) rfl dO) fun _ bJ => sqv bJ rfl (r_assign (bJ.get rfl)) fun _ dQ => sq_end ?_
      have dR := dQ.kp [(0, Sl.v k), (2, .pointer (some (⟨d, 0, none⟩ : Addr))), (3, .pointer (some (⟨f, 0, none⟩ : Addr))), (4, .pointer (some (⟨j, 0, none⟩ : Addr))), (5, .pointer (some (⟨b, 0, none⟩ : Addr))), (6, .int .i64 (l - 1))] rfl
      have bK := dP ab    dN
      have dS := dR.kp [(0, Sl.v k), (2, .pointer (some (⟨d, 0, none⟩ : Addr))), (3, .pointer (some (⟨f, 0, none⟩ : Addr))), (4, .pointer (some (⟨j, 0, none⟩ : Addr))), (5, .pointer (some (⟨b, 0, none⟩ : Addr))), (6, .int .i64 (l - 1))] rfl
      exact then_normal ⟨(l - 1, y, ab), ⟨dS, dM, dL, rfl, bK.1⟩, bK.2⟩
 ·have dT := bt.2 ((b_and_f hc).imp (fun h => (of_decide_eq_false h)) (fun h => (of_decide_eq_false h)))
  clear hc
  refine wp_exit ?_
  refine then_exit ?_
  refine then_exit ?_
  refine block_hit ?_
  have bL := af.kp [(2, .pointer (some (⟨d, 0, none⟩ : Addr))), (5, .pointer (some (⟨b, 0, none⟩ : Addr)))] rfl
  refine then_normal (wp_seq (wp_region_lit ?_))
  refine sqv bL rfl (r_loadN (cs := [.int .i64 1, .string (Bs []), .string (Bs []), Sl.v Sl.nil, Sl.v n]) Tryz.underlying39 rfl ti_39 (bL.get rfl) (aM.part 0 _ rfl)) fun _ aU => ?_
  refine sq (opk_store aU aL (r_store (vs := [.int .i64 1, .string (Bs []), .string (Bs []), Sl.v Sl.nil, Sl.v n]) (aU.get rfl) (aU.get rfl) rfl ti_39 aL rfl (ones_all _ rfl)) fun fu ak bM dU dV => ?_)
  have dX : Box ak d 39 [.int .i64 1, .string (Bs []), .string (Bs []), Sl.v Sl.nil, Sl.v n] := dU
  have fv := aM.keep bM (by simpa using ay.symm)
  have dY : Chg [d] p ak := bM
  refine sq_end ?_
  have bN := dV.kp [(2, .pointer (some (⟨d, 0, none⟩ : Addr)))] rfl
  refine then_normal ?_
  refine wp_ret ?_
  have dZ := dT ak    dY
  exact res_all (vs := [.agg #[.int .i64 1, .string (Bs []), .string (Bs []), Sl.v Sl.nil, Sl.v n]]) rfl bN ⟨res_of_cell bN rfl dX Tryz.underlying39 rfl ti_39, trivial⟩ dZ
def law00_next.vc (c : Sl) (d : Addr) (R : Value → World → Prop) (w : World) : Prop :=
(((c.n : Int) = 0) →
R (.int .i64 0) w) ∧
((¬ ((c.n : Int) = 0)) →
∃ (p : Int), (w.cell? d = some (.int .i64 p)) ∧
(I64 (p + 1)) ∧
∃ (m s : Nat) (x : TypeId) (t : List Value), d = ⟨m, s, none⟩ ∧ Box w m x t ∧ s + 1 ≤ t.length ∧ (∀ b ∈ [], b ≠ m) ∧
(∀ o : World, Chg [m] w o → Box o m x (putAt t s [.int .i64 (p + 1)]) →
∀ (k : World), Chg [] o k →
∃ (g : Int), (k.cell? d = some (.int .i64 g)) ∧
(I64 (g * 5)) ∧
∃ (i : Int), (k.cell? d = some (.int .i64 i)) ∧
((c.n : Int) ≠ 0 ∧ I64 (i.tdiv (c.n : Int))) ∧
(I64 ((g * 5) + (i.tdiv (c.n : Int)))) ∧
∃ (l : Int), (∀ w' : World, Ext k w' → Calls Tryz.prog 10 #[.int .i64 ((g * 5) + (i.tdiv (c.n : Int))), .int .i64 (c.n : Int)] w' (Ret fun v w'' => Ext w' w'' ∧ v = .int .i64 l)) ∧
∃ q : Addr, (((0 : Int) ≤ l ∧ l < (c.n : Int)) ∧ c.a = some q) ∧
∃ (j : Int), (k.cell? (q.add (l.toNat * 1)) = some (.int .i64 j)) ∧
∀ (r : World), Chg [] k r →
R (.int .i64 (bits .and .i64 j 1099511627775)) r))
theorem law00_next.ok (c : Sl) (d : Addr) {R : Value → World → Prop} {w : World} (y : law00_next.vc c d R w) : Calls Tryz.prog 41 #[Sl.v c, .pointer (some d)] w (Ret R) := by
 refine enter [Sl.v c, .pointer (some d)] Tryz.func41 rfl Tryz.ntmps41 rfl ?_
 intro a0 ap
 unfold law00_next.vc at y
 refine wp_seq (wp_region_lit ?_)
 refine sqv ap rfl (r_assign rfl) fun _ aq => sq_end ?_
 have aa := aq.kp [(0, Sl.v c), (1, .pointer (some d))] rfl
 refine then_normal (wp_seq (wp_seq (wp_region_lit ?_)))
 refine sqv aa rfl (r_move (aa.get rfl)) fun _ ab => sqv ab rfl (r_len (ab.get rfl) tU44) fun _ ad => sqv ad rfl (r_eql (ad.get rfl) rfl) fun _ ar => sq_end ?_
 have u := ar.kp [(0, Sl.v c), (1, .pointer (some d)), (7, .bool (decide ((c.n : Int) = 0)))] rfl
 refine then_normal ?_
 refine wp_cond_split (u.get rfl) (fun hc => ?_) (fun hc => ?_)
 ·have au := y.1 (of_decide_eq_true hc)
  clear hc
  refine wp_seq (wp_region_lit ?_)
  refine sqv u rfl (r_assign rfl) fun _ av => sq_end ?_
  have af := av.kp [(4, .int .i64 0)] rfl
  refine then_normal ?_
  refine wp_ret ?_
  refine then_ret ?_
  exact res_all (vs := [.int .i64 0]) rfl af ⟨res_of_tmp af rfl, trivial⟩ au
 ·have ax := y.2 (of_decide_eq_false hc)
  clear hc
  refine wp_skip ?_
  refine then_normal (wp_seq (wp_region_lit ?_))
  refine sqv u rfl (r_move (u.get rfl)) fun _ ah => sqv ah rfl (r_nilCheck (ah.get rfl)) fun _ ai => ?_
  obtain ⟨p, ay, az⟩ := ax
  refine sqv ai rfl (r_load1 tU3 rfl (ai.get rfl) ay) fun _ aj => ?_
  obtain ⟨aA, aB⟩ := az
  refine sqv aj rfl (r_addI (aj.get rfl) rfl aA) fun _ ak => sqv ak rfl (r_nilCheck (ak.get rfl)) fun _ z => ?_
  obtain ⟨m, s, x, t, aC, al, aD, bx, aF⟩ := aB
  refine sq (opk_store z al (r_store (vs := [.int .i64 (p + 1)]) (((z.get rfl)).trans (congrArg (fun a => Value.pointer (some a)) aC)) (z.get rfl) rfl ti_3 al (Nat.ble_eq_true_of_le aD) (ones_all _ rfl)) fun bz o aG aH aI => ?_)
  have aJ := aF o aG aH
  refine sq_end ?_
  have f := aI.kp [(0, Sl.v c), (1, .pointer (some d))] rfl
  refine then_normal (wp_seq ?_)
  refine draw' (by kernel_rfl) fun k aK => ?_
  have aL : Chg [] o k := aK
  have aM := aJ k    aL
  obtain ⟨g, aN, aO⟩ := aM
  obtain ⟨aP, aQ⟩ := aO
  obtain ⟨i, aR, aS⟩ := aQ
  obtain ⟨am, aT⟩ := aS
  obtain ⟨aU, aV⟩ := aT
  obtain ⟨l, aX, aY⟩ := aV
  obtain ⟨q, an, aZ⟩ := aY
  obtain ⟨j, hx77, a1⟩ := aZ
  refine par (D := [[], [], [1], [1, 2], [1, 2, 3], [], [5], [5, 6], [], [8], [5, 6, 7, 8, 9], [1, 2, 3, 4, 5, 6, 7, 8, 9, 10], [], [12], [1, 2, 3, 4, 5, 6, 7, 8, 9, 10, 11, 12, 13], [0, 1, 2, 3, 4, 5, 6, 7, 8, 9, 10, 11, 12, 13, 14], [0, 1, 2, 3, 4, 5, 6, 7, 8, 9, 10, 11, 12, 13, 14, 15], [0, 1, 2, 3, 4, 5, 6, 7, 8, 9, 10, 11, 12, 13, 14, 15, 16], [0, 1, 2, 3, 4, 5, 6, 7, 8, 9, 10, 11, 12, 13, 14, 15, 16, 17]]) (S := [0, 1, 2, 3, 4, 5, 6, 7, 8, 9, 10, 11, 12, 13, 14, 15, 16, 17, 18]) (F := []) (V := VL [(0, fun v _ => v = Sl.v c), (1, fun v _ => v = .pointer (some d)), (2, fun v _ => v = .pointer (some d)), (3, fun v _ => v = .int .i64 g), (4, fun v _ => v = .int .i64 (g * 5)), (5, fun v _ => v = .pointer (some d)), (6, fun v _ => v = .pointer (some d)), (7, fun v _ => v = .int .i64 i), (8, fun v _ => v = Sl.v c), (9, fun v _ => v = .int .i64 (c.n : Int)), (10, fun v _ => v = .int .i64 (i.tdiv (c.n : Int))), (11, fun v _ => v = .int .i64 ((g * 5) + (i.tdiv (c.n : Int)))), (12, fun v _ => v = Sl.v c), (13, fun v _ => v = .int .i64 (c.n : Int)), (14, fun v _ => v = .int .i64 l), (15, fun v _ => v = .pointer (some (q.add (l.toNat * 1)))), (16, fun v _ => v = .int .i64 j), (17, fun v _ => v = .int .i64 (bits .and .i64 j 1099511627775)), (18, fun v _ => v = .int .i64 (bits .and .i64 j 1099511627775))]) f (by kernel_rfl) ⟨fun _ _ _ _ h => h, fun _ _ _ _ h => h, fun _ _ _ _ h => h, fun _ _ _ _ h => h, fun _ _ _ _ h => h, fun _ _ _ _ h => h, fun _ _ _ _ h => h, fun _ _ _ _ h => h, fun _ _ _ _ h => h, fun _ _ _ _ h => h, fun _ _ _ _ h => h, fun _ _ _ _ h => h, fun _ _ _ _ h => h, fun _ _ _ _ h => h, fun _ _ _ _ h => h, fun _ _ _ _ h => h, fun _ _ _ _ h => h, fun _ _ _ _ h => h, fun _ _ _ _ h => h, trivial⟩ ⟨?_, ?_, ?_, ?_, ?_, ?_, ?_, ?_, ?_, ?_, ?_, ?_, ?_, ?_, ?_, ?_, ?_, ?_, ?_, trivial⟩ ?_
  ·intro a w hT
   have hAp := hT.ag f [(0, Sl.v c)] ⟨rfl, trivial⟩ (by kernel_rfl)
   exact ovr hAp rfl (r_move (hAp.get rfl)) fun _ => Eq.refl _
  ·intro a w hT
   have hAp := hT.ag f [(1, .pointer (some d))] ⟨rfl, trivial⟩ (by kernel_rfl)
   exact ovr hAp rfl (r_move (hAp.get rfl)) fun _ => Eq.refl _
  ·intro a w hT
   have hAp := hT.ag f [] trivial (by kernel_rfl)
   have a2 : a.tmps.getD 14 undef = .pointer (some d) := hT.vals 1 rfl 14 rfl
   have hAp := hAp.add a2
   exact ovr hAp rfl (r_nilCheck (hAp.get rfl)) fun _ => Eq.refl _
  ·intro a w hT
   have hAp := hT.ag f [] trivial (by kernel_rfl)
   have a3 : a.tmps.getD 15 undef = .pointer (some d) := hT.vals 2 rfl 15 rfl
   have hAp := hAp.add a3
   exact ovr hAp rfl (r_load1 tU3 rfl (hAp.get rfl) (Ext.cell hT.chg aN)) fun _ => Eq.refl _
  ·intro a w hT
   have hAp := hT.ag f [] trivial (by kernel_rfl)
   have a4 : a.tmps.getD 16 undef = .int .i64 g := hT.vals 3 rfl 16 rfl
   have hAp := hAp.add a4
   exact ovr hAp rfl (r_mulI (hAp.get rfl) rfl aP) fun _ => Eq.refl _
  ·intro a w hT
   have hAp := hT.ag f [(1, .pointer (some d))] ⟨rfl, trivial⟩ (by kernel_rfl)
   exact ovr hAp rfl (r_move (hAp.get rfl)) fun _ => Eq.refl _
  ·intro a w hT
   have hAp := hT.ag f [] trivial (by kernel_rfl)
   have a5 : a.tmps.getD 18 undef = .pointer (some d) := hT.vals 5 rfl 18 rfl
   have hAp := hAp.add a5
   exact ovr hAp rfl (r_nilCheck (hAp.get rfl)) fun _ => Eq.refl _
  ·intro a w hT
   have hAp := hT.ag f [] trivial (by kernel_rfl)
   have a6 : a.tmps.getD 19 undef = .pointer (some d) := hT.vals 6 rfl 19 rfl
   have hAp := hAp.add a6
   exact ovr hAp rfl (r_load1 tU3 rfl (hAp.get rfl) (Ext.cell hT.chg aR)) fun _ => Eq.refl _
  ·intro a w hT
   have hAp := hT.ag f [(0, Sl.v c)] ⟨rfl, trivial⟩ (by kernel_rfl)
   exact ovr hAp rfl (r_move (hAp.get rfl)) fun _ => Eq.refl _
  ·intro a w hT
   have hAp := hT.ag f [] trivial (by kernel_rfl)
   have a7 : a.tmps.getD 21 undef = Sl.v c := hT.vals 8 rfl 21 rfl
   have hAp := hAp.add a7
   exact ovr hAp rfl (r_len (hAp.get rfl) tU44) fun _ => Eq.refl _
  ·intro a w hT
   have hAp := hT.ag f [] trivial (by kernel_rfl)
   have a8 : a.tmps.getD 20 undef = .int .i64 i := hT.vals 7 rfl 20 rfl
   have hAp := hAp.add a8
   have a9 : a.tmps.getD 22 undef = .int .i64 (c.n : Int) := hT.vals 9 rfl 22 rfl
   have hAp := hAp.add a9
   exact ovr hAp rfl (r_quoI (hAp.get rfl) (hAp.get rfl) am.1 am.2) fun _ => Eq.refl _
  ·intro a w hT
   have hAp := hT.ag f [] trivial (by kernel_rfl)
   have ba : a.tmps.getD 17 undef = .int .i64 (g * 5) := hT.vals 4 rfl 17 rfl
   have hAp := hAp.add ba
   have bb : a.tmps.getD 23 undef = .int .i64 (i.tdiv (c.n : Int)) := hT.vals 10 rfl 23 rfl
   have hAp := hAp.add bb
   exact ovr hAp rfl (r_addI (hAp.get rfl) (hAp.get rfl) aU) fun _ => Eq.refl _
  ·intro a w hT
   have hAp := hT.ag f [(0, Sl.v c)] ⟨rfl, trivial⟩ (by kernel_rfl)
   exact ovr hAp rfl (r_move (hAp.get rfl)) fun _ => Eq.refl _
  ·intro a w hT
   have hAp := hT.ag f [] trivial (by kernel_rfl)
   have bd : a.tmps.getD 25 undef = Sl.v c := hT.vals 12 rfl 25 rfl
   have hAp := hAp.add bd
   exact ovr hAp rfl (r_len (hAp.get rfl) tU44) fun _ => Eq.refl _
  ·intro a w hT
   have hAp := hT.ag f [] trivial (by kernel_rfl)
   have bf : a.tmps.getD 24 undef = .int .i64 ((g * 5) + (i.tdiv (c.n : Int))) := hT.vals 11 rfl 24 rfl
   have hAp := hAp.add bf
   have bg : a.tmps.getD 26 undef = .int .i64 (c.n : Int) := hT.vals 13 rfl 26 rfl
   have hAp := hAp.add bg
   exact opk_callX hAp rfl (r_call (args := #[.int .i64 ((g * 5) + (i.tdiv (c.n : Int))), .int .i64 (c.n : Int)]) Tryz.func10 (by decide) rfl (map_arr (ml_cons (hAp.get rfl) (ml_cons (hAp.get rfl) ml_nil))) rfl) (aX w hT.chg) fun _ _ _ _ e hR => ⟨_, e, hR.1, fun _ => hR.2⟩
  ·intro a w hT
   have hAp := hT.ag f [] trivial (by kernel_rfl)
   have bh : a.tmps.getD 13 undef = Sl.v c := hT.vals 0 rfl 13 rfl
   have hAp := hAp.add bh
   have bi : a.tmps.getD 27 undef = .int .i64 l := hT.vals 14 rfl 27 rfl
   have hAp := hAp.add bi
   exact ovr hAp rfl (r_indexAddr (hAp.get rfl) (hAp.get rfl) tU44 ti_3 an.1 an.2) fun _ => Eq.refl _
  ·intro a w hT
   have hAp := hT.ag f [] trivial (by kernel_rfl)
   have bj : a.tmps.getD 28 undef = .pointer (some (q.add (l.toNat * 1))) := hT.vals 15 rfl 28 rfl
   have hAp := hAp.add bj
   exact ovr hAp rfl (r_load1 tU3 rfl (hAp.get rfl) (Ext.cell hT.chg hx77)) fun _ => Eq.refl _
  ·intro a w hT
   have hAp := hT.ag f [] trivial (by kernel_rfl)
   have bk : a.tmps.getD 29 undef = .int .i64 j := hT.vals 16 rfl 29 rfl
   have hAp := hAp.add bk
   exact ovr hAp rfl (r_and (hAp.get rfl) rfl) fun _ => Eq.refl _
  ·intro a w hT
   have hAp := hT.ag f [] trivial (by kernel_rfl)
   have bl : a.tmps.getD 30 undef = .int .i64 (bits .and .i64 j 1099511627775) := hT.vals 17 rfl 30 rfl
   have hAp := hAp.add bl
   exact ovr hAp rfl (r_assign (hAp.get rfl)) fun _ => Eq.refl _
  ·intro bm r bn bo bp
   have bq := bo [] trivial (by kernel_rfl)
   have br : bm.tmps.getD 4 undef = .int .i64 (bits .and .i64 j 1099511627775) := bp 18 rfl 4 rfl
   have bs := bq.add br
   have bt : Chg [] k r := bn
   refine PR_end (by kernel_rfl) ?_
   have ao := bs.kp [(4, .int .i64 (bits .and .i64 j 1099511627775))] rfl
   refine then_normal ?_
   refine wp_ret ?_
   have bu := a1 r    bt
   exact res_all (vs := [.int .i64 (bits .and .i64 j 1099511627775)]) rfl ao ⟨res_of_tmp ao rfl, trivial⟩ bu
end Go.Proofs.YteacalmdpoblpaaGreat
