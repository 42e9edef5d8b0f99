/-
  PRINTED BY PROGRAM: for each function its condition (vc), and that this suffices (ok).
-/
import Derived.Test.YteacalmdpoblpaaGreatQCodecBaseGT
namespace Go.Proofs.YteacalmdpoblpaaGreat
open Go.RowKit
set_option linter.unusedVariables false
set_option maxHeartbeats 1000000
set_option maxRecDepth 10000
def ref05_Same.vc (a : Int) (b : Str) (c : Str) (d : Sl) (f : Sl) (g : Int) (h : Str) (i : Str) (j : Sl) (k : Sl) (R : Value → World → Prop) (w : World) : Prop :=
∀ (n : World) (l : Nat) (m : Nat), New w l n → New w m n → l ≠ m → Chg [] w n →
CallK Tryz.prog 38 #[.agg #[.int .i64 a, .string (Bs b), .string (Bs c), Sl.v d, Sl.v f], .agg #[.int .i64 g, .string (Bs h), .string (Bs i), Sl.v j, Sl.v k]] n [l, m] (fun v r => ∃ (o : Int), v = .int .i64 o ∧
R (.bool (decide (o = 0))) r)
theorem ref05_Same.ok (a : Int) (b : Str) (c : Str) (d : Sl) (f : Sl) (g : Int) (h : Str) (i : Str) (j : Sl) (k : Sl) {R : Value → World → Prop} {w : World} (s : ref05_Same.vc a b c d f g h i j k R w) : Calls Tryz.prog 13 #[.agg #[.int .i64 a, .string (Bs b), .string (Bs c), Sl.v d, Sl.v f], .agg #[.int .i64 g, .string (Bs h), .string (Bs i), Sl.v j, Sl.v k]] w (Ret R) := by
 refine enter [.agg #[.int .i64 a, .string (Bs b), .string (Bs c), Sl.v d, Sl.v f], .agg #[.int .i64 g, .string (Bs h), .string (Bs i), Sl.v j, Sl.v k]] Tryz.func13 rfl Tryz.ntmps13 rfl ?_
 intro a0 t
 unfold ref05_Same.vc at s
 refine wp_seq (wp_region_lit ?_)
 refine sq (opk_new (fun B => .pointer (some ⟨B, 0, none⟩)) t rfl (r_box (cs := [.int .i64 a, .string (Bs b), .string (Bs c), Sl.v d, Sl.v f]) (t.get rfl) rfl) fun a5 u l al am x y _ => ?_)
 have an : New w l u := am
 have z : Chg [] w u := al
 refine sq (opk_new (fun B => .pointer (some ⟨B, 0, none⟩)) y rfl (r_box (cs := [.int .i64 g, .string (Bs h), .string (Bs i), Sl.v j, Sl.v k]) (y.get rfl) rfl) fun aD n m p aa ab ao _ => ?_)
 have ap : l ≠ m := Nat.ne_of_lt (Nat.lt_of_lt_of_le x.lt aa.ge)
 have aq := New.of z aa
 have ad := x.ext p
 have ar := z.more p
 have au := an.up p.size
 refine sqv ao rfl (r_assign rfl) fun _ av => sq_end ?_
 have af := av.kp [(2, .pointer (some (⟨l, 0, none⟩ : Addr))), (3, .pointer (some (⟨m, 0, none⟩ : Addr)))] rfl
 refine then_normal (wp_seq (wp_region_lit ?_))
 refine sqv af rfl (r_loadN (cs := [.int .i64 a, .string (Bs b), .string (Bs c), Sl.v d, Sl.v f]) Tryz.underlying39 rfl ti_39 (af.get rfl) (ad.part 0 _ rfl)) fun _ ag => sqv ag rfl (r_loadN (cs := [.int .i64 g, .string (Bs h), .string (Bs i), Sl.v j, Sl.v k]) Tryz.underlying39 rfl ti_39 (ag.get rfl) (ab.part 0 _ rfl)) fun _ q => ?_
 have ax := s n l m au aq ap ar
 refine sq (opk_call q rfl (r_call (args := #[.agg #[.int .i64 a, .string (Bs b), .string (Bs c), Sl.v d, Sl.v f], .agg #[.int .i64 g, .string (Bs h), .string (Bs i), Sl.v j, Sl.v k]]) Tryz.func38 (by decide) rfl (map_arr (ml_cons (q.get rfl) (ml_cons (q.get rfl) ml_nil))) rfl) ax fun aF aG r ah _ ai aH ay => ?_)
 obtain ⟨o, rfl, az⟩ := ay
 have aI := ad.kept ai (.head _)
 have aJ := ab.kept ai (.tail _ (.head _))
 refine sqv ah rfl (r_eql (ah.get rfl) rfl) fun _ aj => sqv aj rfl (r_assign (aj.get rfl)) fun _ aA => sq_end ?_
 have ak := aA.kp [(4, .bool (decide (o = 0)))] rfl
 refine then_normal ?_
 refine wp_ret ?_
 exact res_all (vs := [.bool (decide (o = 0))]) rfl ak ⟨res_of_tmp ak rfl, trivial⟩ az
def ref05_Compare.vc (m : Int) (o : Str) (p : Str) (q : Sl) (d : Sl) (r : Int) (t : Str) (u : Str) (x : Sl) (j : Sl) (R : Value → World → Prop) (w : World) : Prop :=
∀ (ad : World) (f : Nat) (i : Nat), New w f ad → New w i ad → f ≠ i → Chg [] w ad →
CallK Tryz.prog 67 #[.agg #[.int .i64 m, .string (Bs o), .string (Bs p), Sl.v q, Sl.v d], .agg #[.int .i64 r, .string (Bs t), .string (Bs u), Sl.v x, Sl.v j]] ad [f, i] (fun v aB => ∃ (aa : Int), v = .int .i64 aa ∧
∃ (ar : Int → Int → World → Prop) (aA : Int → Int → World → Nat),
ar aa 0 aB ∧
(∀ (c : Int) (b : Int) (z : World), ar c b z →
((((c = 0) ∧ (b < (d.n : Int))) ∧ (b < (j.n : Int))) →
∀ (y : World), Chg [] z y →
∃ au : Addr, (((0 : Int) ≤ b ∧ b < (d.n : Int)) ∧ d.a = some au) ∧
∃ (af : Int) (ah : Str) (ai : Str) (aj : Sl) (ak : Sl), (Cells y (au.add (b.toNat * 5)) [.int .i64 af, .string (Bs ah), .string (Bs ai), Sl.v aj, Sl.v ak]) ∧
∃ av : Addr, (((0 : Int) ≤ b ∧ b < (j.n : Int)) ∧ j.a = some av) ∧
∃ (al : Int) (am : Str) (an : Str) (ao : Sl) (ap : Sl), (Cells y (av.add (b.toNat * 5)) [.int .i64 al, .string (Bs am), .string (Bs an), Sl.v ao, Sl.v ap]) ∧
∃ (l : Int), (∀ w' : World, Ext y w' → Calls Tryz.prog 38 #[.agg #[.int .i64 af, .string (Bs ah), .string (Bs ai), Sl.v aj, Sl.v ak], .agg #[.int .i64 al, .string (Bs am), .string (Bs an), Sl.v ao, Sl.v ap]] w' (Ret fun v w'' => Ext w' w'' ∧ v = .int .i64 l)) ∧
(I64 (b + 1)) ∧
∀ (ab : World), Chg [] y ab →
ar l (b + 1) ab ∧ aA l (b + 1) ab < aA c b z) ∧
((((¬ (c = 0)) ∨ (¬ (b < (d.n : Int)))) ∨ (¬ (b < (j.n : Int)))) →
((c = 0) →
CallK Tryz.prog 68 #[.bool (decide ((d.n : Int) < (j.n : Int))), .bool (decide ((j.n : Int) < (d.n : Int)))] z [f, i] (fun v aO => ∃ (aq : Int), v = .int .i64 aq ∧
R (.int .i64 aq) aO)) ∧
((¬ (c = 0)) →
R (.int .i64 c) z))))
theorem ref05_Compare.ok (m : Int) (o : Str) (p : Str) (q : Sl) (d : Sl) (r : Int) (t : Str) (u : Str) (x : Sl) (j : Sl) {R : Value → World → Prop} {w : World} (aP : ref05_Compare.vc m o p q d r t u x j R w) : Calls Tryz.prog 38 #[.agg #[.int .i64 m, .string (Bs o), .string (Bs p), Sl.v q, Sl.v d], .agg #[.int .i64 r, .string (Bs t), .string (Bs u), Sl.v x, Sl.v j]] w (Ret R) := by
 refine enter [.agg #[.int .i64 m, .string (Bs o), .string (Bs p), Sl.v q, Sl.v d], .agg #[.int .i64 r, .string (Bs t), .string (Bs u), Sl.v x, Sl.v j]] Tryz.func38 rfl Tryz.ntmps38 rfl ?_
 intro a0 aQ
 unfold ref05_Compare.vc at aP
 refine wp_seq (wp_region_lit ?_)
 refine sq (opk_new (fun B => .pointer (some ⟨B, 0, none⟩)) aQ rfl (r_box (cs := [.int .i64 m, .string (Bs o), .string (Bs p), Sl.v q, Sl.v d]) (aQ.get rfl) rfl) fun a5 w4 f bO bP aS aT _ => ?_)
 have bQ : New w f w4 := bP
 have aU : Chg [] w w4 := bO
 refine sq (opk_new (fun B => .pointer (some ⟨B, 0, none⟩)) aT rfl (r_box (cs := [.int .i64 r, .string (Bs t), .string (Bs u), Sl.v x, Sl.v j]) (aT.get rfl) rfl) fun c1 ad i aC aV aX bR _ => ?_)
 have bS : f ≠ i := Nat.ne_of_lt (Nat.lt_of_lt_of_le aS.lt aV.ge)
 have bT := New.of aU aV
 have aY := aS.ext aC
 have bU := aU.more aC
 have bV := bQ.up aC.size
 refine sqv bR rfl (r_assign rfl) fun _ bX => sq_end ?_
 have aZ := bX.kp [(2, .pointer (some (⟨f, 0, none⟩ : Addr))), (3, .pointer (some (⟨i, 0, none⟩ : Addr)))] rfl
 refine then_normal (wp_seq (wp_region_lit ?_))
 refine sqv aZ rfl (r_loadN (cs := [.int .i64 m, .string (Bs o), .string (Bs p), Sl.v q, Sl.v d]) Tryz.underlying39 rfl ti_39 (aZ.get rfl) (aY.part 0 _ rfl)) fun _ hA24 => sqv hA24 rfl (r_loadN (cs := [.int .i64 r, .string (Bs t), .string (Bs u), Sl.v x, Sl.v j]) Tryz.underlying39 rfl ti_39 (hA24.get rfl) (aX.part 0 _ rfl)) fun _ aD => ?_
 have bY := aP ad f i bV bT bS bU
 refine sq (opk_call aD rfl (r_call (args := #[.agg #[.int .i64 m, .string (Bs o), .string (Bs p), Sl.v q, Sl.v d], .agg #[.int .i64 r, .string (Bs t), .string (Bs u), Sl.v x, Sl.v j]]) Tryz.func67 (by decide) rfl (map_arr (ml_cons (aD.get rfl) (ml_cons (aD.get rfl) ml_nil))) rfl) bY fun c2 c3 aB a1 _ a2 c4 bZ => ?_)
 obtain ⟨aa, rfl, b0⟩ := bZ
 have b1 := aY.kept a2 (.head _)
 have b2 := aX.kept a2 (.tail _ (.head _))
 refine sqv a1 rfl (r_assign (a1.get rfl)) fun _ b3 => sq_end ?_
 have b4 := b3.kp [(2, .pointer (some (⟨f, 0, none⟩ : Addr))), (3, .pointer (some (⟨i, 0, none⟩ : Addr))), (5, .int .i64 aa)] rfl
 refine then_normal (wp_seq (wp_seq (wp_region_lit ?_)))
 refine sqv b4 rfl (r_assign rfl) fun _ b5 => sq_end ?_
 have b6 := b5.kp [(2, .pointer (some (⟨f, 0, none⟩ : Addr))), (3, .pointer (some (⟨i, 0, none⟩ : Addr))), (5, .int .i64 aa), (6, .int .i64 0)] rfl
 refine then_normal (wp_block ?_)
 obtain ⟨ar, aA, b7, b8⟩ := b0
 refine wp_loop_st (σ := Int × Int × World) (fun s a w => Ag 57 a [(2, .pointer (some (⟨f, 0, none⟩ : Addr))), (3, .pointer (some (⟨i, 0, none⟩ : Addr))), (5, .int .i64 s.1), (6, .int .i64 s.2.1)] ∧ Box w f 39 [.int .i64 m, .string (Bs o), .string (Bs p), Sl.v q, Sl.v d] ∧ Box w i 39 [.int .i64 r, .string (Bs t), .string (Bs u), Sl.v x, Sl.v j] ∧ w = s.2.2 ∧ ar s.1 s.2.1 s.2.2) (fun s => aA s.1 s.2.1 s.2.2) (aa, 0, aB) ⟨b6.kp [(2, .pointer (some (⟨f, 0, none⟩ : Addr))), (3, .pointer (some (⟨i, 0, none⟩ : Addr))), (5, .int .i64 aa), (6, .int .i64 0)] rfl, b1, b2, rfl, b7⟩ ?_
 rintro ⟨c, b, z⟩ c5 w_ ⟨a3, ax, ay, hw_, b9⟩
 have hw_ : z = w_ := hw_.symm
 subst hw_
 have a4 := b8 c b _ b9
 refine wp_seq (wp_seq (wp_region_lit ?_))
 refine sqv a3 rfl (r_move (a3.get rfl)) fun _ hA125 => sqv hA125 rfl (r_eql (hA125.get rfl) rfl) fun _ a6 => sqv a6 rfl (r_move (a6.get rfl)) fun _ a7 => ?_
 refine sq (opk_gval a7 rfl rfl (g := true) (e := (decide (c = 0))) rfl (fun hg => r_move (a7.get rfl)) fun c6 a8 _ => ?_)
 refine sq (opk_gval a8 rfl rfl (g := true) (e := (decide (c = 0))) rfl (fun hg => r_fieldAddr (a8.get rfl) Tryz.underlying39 rfl ti_37 (by decide)) fun c7 a9 _ => ?_)
 refine sq (opk_gval a9 rfl rfl (g := true) (e := (decide (c = 0))) rfl (fun hg => r_load1 tU37 rfl (cv_get (a9.get rfl) hg) (ax.cell 4 _ rfl)) fun c8 ba _ => ?_)
 refine sq (opk_gval ba rfl rfl (g := true) (e := (decide (c = 0))) rfl (fun hg => r_len (cv_get (ba.get rfl) hg) tU37) fun c9 aF _ => ?_)
 refine sq (opk_gval aF rfl rfl (g := true) (e := (decide (c = 0))) rfl (fun hg => r_lss (cv_get (aF.get rfl) hg) (cv_get (aF.get rfl) hg)) fun da aG _ => ?_)
 refine sqv aG rfl (r_pick_and (g := (true && ((decide (c = 0)) == true))) (aG.get rfl) (aG.get rfl) (fun he => g_mkt rfl he)) fun _ bb => sqv bb rfl (r_move (bb.get rfl)) fun _ bd => ?_
 refine sq (opk_gval bd rfl rfl (g := true) (e := ((decide (c = 0)) && (decide (b < (d.n : Int))))) rfl (fun hg => r_move (bd.get rfl)) fun db bf _ => ?_)
 refine sq (opk_gval bf rfl rfl (g := true) (e := ((decide (c = 0)) && (decide (b < (d.n : Int))))) rfl (fun hg => r_fieldAddr (bf.get rfl) Tryz.underlying39 rfl ti_37 (by decide)) fun dc bg _ => ?_)
 refine sq (opk_gval bg rfl rfl (g := true) (e := ((decide (c = 0)) && (decide (b < (d.n : Int))))) rfl (fun hg => r_load1 tU37 rfl (cv_get (bg.get rfl) hg) (ay.cell 4 _ rfl)) fun dd bh _ => ?_)
 refine sq (opk_gval bh rfl rfl (g := true) (e := ((decide (c = 0)) && (decide (b < (d.n : Int))))) rfl (fun hg => r_len (cv_get (bh.get rfl) hg) tU37) fun df aH _ => ?_)
 refine sq (opk_gval aH rfl rfl (g := true) (e := ((decide (c = 0)) && (decide (b < (d.n : Int))))) rfl (fun hg => r_lss (cv_get (aH.get rfl) hg) (cv_get (aH.get rfl) hg)) fun dg aI _ => ?_)
 refine sqv aI rfl (r_pick_and (g := (true && (((decide (c = 0)) && (decide (b < (d.n : Int)))) == true))) (aI.get rfl) (aI.get rfl) (fun he => g_mkt rfl he)) fun _ ca => sq_end ?_
 have k := ca.kp [(2, .pointer (some (⟨f, 0, none⟩ : Addr))), (3, .pointer (some (⟨i, 0, none⟩ : Addr))), (5, .int .i64 c), (6, .int .i64 b), (25, .bool (((decide (c = 0)) && (decide (b < (d.n : Int)))) && (decide (b < (j.n : Int)))))] rfl
 refine then_normal ?_
 refine wp_cond_split (k.get rfl) (fun hc => ?_) (fun hc => ?_)
 ·have cb := a4.1 ⟨⟨(of_decide_eq_true (b_and_t (b_and_t hc).1).1), (of_decide_eq_true (b_and_t (b_and_t hc).1).2)⟩, (of_decide_eq_true (b_and_t hc).2)⟩
  clear hc
  refine wp_skip ?_
  refine then_normal (wp_seq (wp_block ?_))
  refine draw' (by kernel_rfl) fun y aJ => ?_
  have bi := ax.ext aJ
  have bj := ay.ext aJ
  have cc : Chg [] z y := aJ
  have cd := cb y    cc
  obtain ⟨au, bk, cf⟩ := cd
  obtain ⟨af, ah, ai, aj, ak, cg, ch⟩ := cf
  obtain ⟨av, bl, ci⟩ := ch
  obtain ⟨al, am, an, ao, ap, cj, ck⟩ := ci
  obtain ⟨l, cl, cm⟩ := ck
  refine par (D := [[], [0], [], [0, 1, 2], [0, 1, 2, 3], [], [5], [], [5, 6, 7], [5, 6, 7, 8], [0, 1, 2, 3, 4, 5, 6, 7, 8, 9], [0, 1, 2, 3, 4, 5, 6, 7, 8, 9, 10]]) (S := [0, 1, 2, 3, 4, 5, 6, 7, 8, 9, 10, 11]) (F := []) (V := VL [(0, fun v _ => v = .pointer (some (⟨f, 4, none⟩ : Addr))), (1, fun v _ => v = Sl.v d), (2, fun v _ => v = .int .i64 b), (3, fun v _ => v = .pointer (some (au.add (b.toNat * 5)))), (4, fun v _ => v = .agg #[.int .i64 af, .string (Bs ah), .string (Bs ai), Sl.v aj, Sl.v ak]), (5, fun v _ => v = .pointer (some (⟨i, 4, none⟩ : Addr))), (6, fun v _ => v = Sl.v j), (7, fun v _ => v = .int .i64 b), (8, fun v _ => v = .pointer (some (av.add (b.toNat * 5)))), (9, fun v _ => v = .agg #[.int .i64 al, .string (Bs am), .string (Bs an), Sl.v ao, Sl.v ap]), (10, fun v _ => v = .int .i64 l), (11, fun v _ => v = .int .i64 l)]) k (by kernel_rfl) ⟨fun _ _ _ _ h => h, fun _ _ _ _ h => h, fun _ _ _ _ h => h, fun _ _ _ _ h => h, fun _ _ _ _ h => h, fun _ _ _ _ h => h, fun _ _ _ _ h => h, fun _ _ _ _ h => h, fun _ _ _ _ h => h, fun _ _ _ _ h => h, fun _ _ _ _ h => h, fun _ _ _ _ h => h, trivial⟩ ⟨?_, ?_, ?_, ?_, ?_, ?_, ?_, ?_, ?_, ?_, ?_, ?_, trivial⟩ ?_
  ·intro a w hT
   have hAp := hT.ag k [(2, .pointer (some (⟨f, 0, none⟩ : Addr)))] ⟨rfl, trivial⟩ (by kernel_rfl)
   exact ovr hAp rfl (r_fieldAddr (hAp.get rfl) Tryz.underlying39 rfl ti_37 (by decide)) fun _ => Eq.refl _
  ·intro a w hT
   have hAp := hT.ag k [] trivial (by kernel_rfl)
   have cn : a.tmps.getD 28 undef = .pointer (some (⟨f, 4, none⟩ : Addr)) := hT.vals 0 rfl 28 rfl
   have hAp := hAp.add cn
   exact ovr hAp rfl (r_load1 tU37 rfl (hAp.get rfl) ((bi.ext hT.chg).cell 4 _ rfl)) fun _ => Eq.refl _
  ·intro a w hT
   have hAp := hT.ag k [(6, .int .i64 b)] ⟨rfl, trivial⟩ (by kernel_rfl)
   exact ovr hAp rfl (r_move (hAp.get rfl)) fun _ => Eq.refl _
  ·intro a w hT
   have hAp := hT.ag k [] trivial (by kernel_rfl)
   have co : a.tmps.getD 29 undef = Sl.v d := hT.vals 1 rfl 29 rfl
   have hAp := hAp.add co
   have cp : a.tmps.getD 30 undef = .int .i64 b := hT.vals 2 rfl 30 rfl
   have hAp := hAp.add cp
   exact ovr hAp rfl (r_indexAddr (hAp.get rfl) (hAp.get rfl) tU37 ti_39 bk.1 bk.2) fun _ => Eq.refl _
  ·intro a w hT
   have hAp := hT.ag k [] trivial (by kernel_rfl)
   have cq : a.tmps.getD 31 undef = .pointer (some (au.add (b.toNat * 5))) := hT.vals 3 rfl 31 rfl
   have hAp := hAp.add cq
   exact ovr hAp rfl (r_loadN Tryz.underlying39 rfl ti_39 (hAp.get rfl) (cg.ext hT.chg)) fun _ => Eq.refl _
  ·intro a w hT
   have hAp := hT.ag k [(3, .pointer (some (⟨i, 0, none⟩ : Addr)))] ⟨rfl, trivial⟩ (by kernel_rfl)
   exact ovr hAp rfl (r_fieldAddr (hAp.get rfl) Tryz.underlying39 rfl ti_37 (by decide)) fun _ => Eq.refl _
  ·intro a w hT
   have hAp := hT.ag k [] trivial (by kernel_rfl)
   have cr : a.tmps.getD 33 undef = .pointer (some (⟨i, 4, none⟩ : Addr)) := hT.vals 5 rfl 33 rfl
   have hAp := hAp.add cr
   exact ovr hAp rfl (r_load1 tU37 rfl (hAp.get rfl) ((bj.ext hT.chg).cell 4 _ rfl)) fun _ => Eq.refl _
  ·intro a w hT
   have hAp := hT.ag k [(6, .int .i64 b)] ⟨rfl, trivial⟩ (by kernel_rfl)
   exact ovr hAp rfl (r_move (hAp.get rfl)) fun _ => Eq.refl _
  ·intro a w hT
   have hAp := hT.ag k [] trivial (by kernel_rfl)
   have ct : a.tmps.getD 34 undef = Sl.v j := hT.vals 6 rfl 34 rfl
   have hAp := hAp.add ct
   have cu : a.tmps.getD 35 undef = .int .i64 b := hT.vals 7 rfl 35 rfl
   have hAp := hAp.add cu
   exact ovr hAp rfl (r_indexAddr (hAp.get rfl) (hAp.get rfl) tU37 ti_39 bl.1 bl.2) fun _ => Eq.refl _
  ·intro a w hT
   have hAp := hT.ag k [] trivial (by kernel_rfl)
   have cv : a.tmps.getD 36 undef = .pointer (some (av.add (b.toNat * 5))) := hT.vals 8 rfl 36 rfl
   have hAp := hAp.add cv
   exact ovr hAp rfl (r_loadN Tryz.underlying39 rfl ti_39 (hAp.get rfl) (cj.ext hT.chg)) fun _ => Eq.refl _
  ·intro a w hT
   have hAp := hT.ag k [] trivial (by kernel_rfl)
   have cx : a.tmps.getD 32 undef = .agg #[.int .i64 af, .string (Bs ah), .string (Bs ai), Sl.v aj, Sl.v ak] := hT.vals 4 rfl 32 rfl
   have hAp := hAp.add cx
   have cy : a.tmps.getD 37 undef = .agg #[.int .i64 al, .string (Bs am), .string (Bs an), Sl.v ao, Sl.v ap] := hT.vals 9 rfl 37 rfl
   have hAp := hAp.add cy
   exact opk_callX hAp rfl (r_call (args := #[.agg #[.int .i64 af, .string (Bs ah), .string (Bs ai), Sl.v aj, Sl.v ak], .agg #[.int .i64 al, .string (Bs am), .string (Bs an), Sl.v ao, Sl.v ap]]) Tryz.func38 (by decide) rfl (map_arr (ml_cons (hAp.get rfl) (ml_cons (hAp.get rfl) ml_nil))) rfl) (cl w hT.chg) fun _ _ _ _ e hR => ⟨_, e, hR.1, fun _ => hR.2⟩
  ·intro a w hT
   have hAp := hT.ag k [] trivial (by kernel_rfl)
   have cz : a.tmps.getD 38 undef = .int .i64 l := hT.vals 10 rfl 38 rfl
   have hAp := hAp.add cz
   exact ovr hAp rfl (r_assign (hAp.get rfl)) fun _ => Eq.refl _
  ·intro cA ab aK cB cC
   have cD := cB [(2, .pointer (some (⟨f, 0, none⟩ : Addr))), (3, .pointer (some (⟨i, 0, none⟩ : Addr))), (6, .int .i64 b)] ⟨rfl, rfl, rfl, trivial⟩ (by kernel_rfl)
   have cF : cA.tmps.getD 5 undef = .int .i64 l := cC 11 rfl 5 rfl
   have cG := cD.add cF
   have cH := bi.ext aK
   have cI := bj.ext aK
   have cJ : Chg [] y ab := aK
   refine PR_end (by kernel_rfl) ?_
   have bm := cG.kp [(2, .pointer (some (⟨f, 0, none⟩ : Addr))), (3, .pointer (some (⟨i, 0, none⟩ : Addr))), (5, .int .i64 l), (6, .int .i64 b)] rfl
   refine block_normal ?_
   refine then_normal (wp_region_lit ?_)
   refine sqv bm rfl (r_move (bm.get rfl)) fun _ bn => ?_
   obtain ⟨cK, cL⟩ := cm
   refine sqv bn rfl (r_addI (bn.get rfl) rfl cK) fun _ bo => sqv bo rfl (r_assign (bo.get rfl)) fun _ cM => sq_end ?_
   have cN := cM.kp [(2, .pointer (some (⟨f, 0, none⟩ : Addr))), (3, .pointer (some (⟨i, 0, none⟩ : Addr))), (5, .int .i64 l), (6, .int .i64 (b + 1))] rfl
   have bp := cL ab    cJ
   have cO := cN.kp [(2, .pointer (some (⟨f, 0, none⟩ : Addr))), (3, .pointer (some (⟨i, 0, none⟩ : Addr))), (5, .int .i64 l), (6, .int .i64 (b + 1))] rfl
   exact then_normal ⟨(l, b + 1, ab), ⟨cO, cH, cI, rfl, bp.1⟩, bp.2⟩
 ·have bq := a4.2 ((b_and_f hc).imp (fun h => ((b_and_f h).imp (fun h => (of_decide_eq_false h)) (fun h => (of_decide_eq_false h)))) (fun h => (of_decide_eq_false h)))
  clear hc
  refine wp_exit ?_
  refine then_exit ?_
  refine then_exit ?_
  refine block_hit ?_
  have br := k.kp [(2, .pointer (some (⟨f, 0, none⟩ : Addr))), (3, .pointer (some (⟨i, 0, none⟩ : Addr))), (5, .int .i64 c)] rfl
  refine then_normal (wp_seq (wp_seq (wp_region_lit ?_)))
  refine sqv br rfl (r_move (br.get rfl)) fun _ bs => sqv bs rfl (r_eql (bs.get rfl) rfl) fun _ cP => sq_end ?_
  have az := cP.kp [(2, .pointer (some (⟨f, 0, none⟩ : Addr))), (3, .pointer (some (⟨i, 0, none⟩ : Addr))), (5, .int .i64 c), (40, .bool (decide (c = 0)))] rfl
  refine then_normal ?_
  refine wp_cond_split (az.get rfl) (fun hc => ?_) (fun hc => ?_)
  ·have cQ := bq.1 (of_decide_eq_true hc)
   clear hc
   refine wp_region_lit ?_
   refine sqv az rfl (r_fieldAddr (az.get rfl) Tryz.underlying39 rfl ti_37 (by decide)) fun _ bt => sqv bt rfl (r_load1 tU37 rfl (bt.get rfl) (ax.cell 4 _ rfl)) fun _ bu => sqv bu rfl (r_len (bu.get rfl) tU37) fun _ bv => sqv bv rfl (r_fieldAddr (bv.get rfl) Tryz.underlying39 rfl ti_37 (by decide)) fun _ bx => sqv bx rfl (r_load1 tU37 rfl (bx.get rfl) (ay.cell 4 _ rfl)) fun _ bz => sqv bz rfl (r_len (bz.get rfl) tU37) fun _ aL => sqv aL rfl (r_lss (aL.get rfl) (aL.get rfl)) fun _ bA => sqv bA rfl (r_fieldAddr (bA.get rfl) Tryz.underlying39 rfl ti_37 (by decide)) fun _ bB => ?_
   refine sqv bB rfl (r_load1 tU37 rfl (bB.get rfl) (ax.cell 4 _ rfl)) fun _ bC => sqv bC rfl (r_len (bC.get rfl) tU37) fun _ bD => sqv bD rfl (r_fieldAddr (bD.get rfl) Tryz.underlying39 rfl ti_37 (by decide)) fun _ bF => sqv bF rfl (r_load1 tU37 rfl (bF.get rfl) (ay.cell 4 _ rfl)) fun _ bG => sqv bG rfl (r_len (bG.get rfl) tU37) fun _ aM => sqv aM rfl (r_gtr (aM.get rfl) (aM.get rfl)) fun _ aN => ?_
   refine sq (opk_call aN rfl (r_call (args := #[.bool (decide ((d.n : Int) < (j.n : Int))), .bool (decide ((j.n : Int) < (d.n : Int)))]) Tryz.func68 (by decide) rfl (map_arr (ml_cons (aN.get rfl) (ml_cons (aN.get rfl) ml_nil))) rfl) cQ fun dh di aO bH _ bI dj cR => ?_)
   obtain ⟨aq, rfl, cS⟩ := cR
   have dk := ax.kept bI (.head _)
   have dl := ay.kept bI (.tail _ (.head _))
   refine sqv bH rfl (r_assign (bH.get rfl)) fun _ cT => sq_end ?_
   have bJ := cT.kp [(5, .int .i64 aq)] rfl
   refine then_normal (wp_seq (wp_region_lit ?_))
   refine sqv bJ rfl (r_move (bJ.get rfl)) fun _ bK => sqv bK rfl (r_assign (bK.get rfl)) fun _ cU => sq_end ?_
   have bL := cU.kp [(4, .int .i64 aq)] rfl
   refine then_normal ?_
   refine wp_ret ?_
   exact res_all (vs := [.int .i64 aq]) rfl bL ⟨res_of_tmp bL rfl, trivial⟩ cS
  ·have cX := bq.2 (of_decide_eq_false hc)
   clear hc
   refine wp_skip ?_
   refine then_normal (wp_seq (wp_region_lit ?_))
   refine sqv az rfl (r_move (az.get rfl)) fun _ bM => sqv bM rfl (r_assign (bM.get rfl)) fun _ cY => sq_end ?_
   have bN := cY.kp [(4, .int .i64 c)] rfl
   refine then_normal ?_
   refine wp_ret ?_
   exact res_all (vs := [.int .i64 c]) rfl bN ⟨res_of_tmp bN rfl, trivial⟩ cX
def ref05_Node.vc (aa : Int) (t : Str) (u : Str) (m : Sl) (al : Sl) (ab : Int) (x : Str) (y : Str) (q : Sl) (am : Sl) (R : Value → World → Prop) (w : World) : Prop :=
∀ (av : World) (k : Nat) (j : Nat), New w k av → New w j av → k ≠ j → Chg [] w av →
CallK Tryz.prog 68 #[.bool (decide (aa < ab)), .bool (decide (ab < aa))] av [k, j] (fun v w37 => ∃ (aj : Int), v = .int .i64 aj ∧
∃ aH : Int → World → Prop,
(((aj = 0) →
CallK Tryz.prog 68 #[.bool (Op.bytesLess t x), .bool (!((Op.bytesLess t x) || (decide (t = x))))] w37 [k, j] (fun v bM => ∃ (ax : Int), v = .int .i64 ax ∧
aH ax bM)) ∧
((¬ (aj = 0)) →
aH aj w37)) ∧
(∀ (z : Int) (aI : World), aH z aI →
∃ aJ : Int → World → Prop,
(((z = 0) →
CallK Tryz.prog 68 #[.bool (Op.bytesLess u y), .bool (!((Op.bytesLess u y) || (decide (u = y))))] aI [k, j] (fun v bN => ∃ (ay : Int), v = .int .i64 ay ∧
aJ ay bN)) ∧
((¬ (z = 0)) →
aJ z aI)) ∧
(∀ (ak : Int) (aK : World), aJ ak aK →
∃ (aL : Int → Int → World → Prop) (aR : Int → Int → World → Nat),
aL ak 0 aK ∧
(∀ (l : Int) (f : Int) (an : World), aL l f an →
((((l = 0) ∧ (f < (m.n : Int))) ∧ (f < (q.n : Int))) →
∀ (ad : World), Chg [] an ad →
∃ az : Addr, (((0 : Int) ≤ f ∧ f < (m.n : Int)) ∧ m.a = some az) ∧
∃ (b : Str) (af : Str), (Cells ad (az.add (f.toNat * 2)) [.string (Bs b), .string (Bs af)]) ∧
∃ aq : Addr, (((0 : Int) ≤ f ∧ f < (q.n : Int)) ∧ q.a = some aq) ∧
∃ (d : Str) (ah : Str), (Cells ad (aq.add (f.toNat * 2)) [.string (Bs d), .string (Bs ah)]) ∧
∀ (ao : World) (o : Nat) (p : Nat), Ext ad ao → ad.heap.size ≤ o → Box ao o 91 [.string (Bs []), .string (Bs [])] → ad.heap.size ≤ p → Box ao p 91 [.string (Bs []), .string (Bs [])] → 
∀ (aM : World), Chg [p, o] ao aM →
CallK Tryz.prog 68 #[.bool ((Op.bytesLess b d) || ((decide (b = d)) && (Op.bytesLess af ah))), .bool ((!((Op.bytesLess b d) || (decide (b = d)))) || ((decide (b = d)) && (!((Op.bytesLess af ah) || (decide (af = ah))))))] aM [k, j, o, p] (fun v aS => ∃ (ap : Int), v = .int .i64 ap ∧
(I64 (f + 1)) ∧
aL ap (f + 1) aS ∧ aR ap (f + 1) aS < aR l f an)) ∧
((((¬ (l = 0)) ∨ (¬ (f < (m.n : Int)))) ∨ (¬ (f < (q.n : Int)))) →
((l = 0) →
CallK Tryz.prog 68 #[.bool (decide ((m.n : Int) < (q.n : Int))), .bool (decide ((q.n : Int) < (m.n : Int)))] an [k, j] (fun v bO => ∃ (aA : Int), v = .int .i64 aA ∧
R (.int .i64 aA) bO)) ∧
((¬ (l = 0)) →
R (.int .i64 l) an))))))
theorem ref05_Node.ok (aa : Int) (t : Str) (u : Str) (m : Sl) (al : Sl) (ab : Int) (x : Str) (y : Str) (q : Sl) (am : Sl) {R : Value → World → Prop} {w : World} (bP : ref05_Node.vc aa t u m al ab x y q am R w) : Calls Tryz.prog 67 #[.agg #[.int .i64 aa, .string (Bs t), .string (Bs u), Sl.v m, Sl.v al], .agg #[.int .i64 ab, .string (Bs x), .string (Bs y), Sl.v q, Sl.v am]] w (Ret R) := by
 refine enter [.agg #[.int .i64 aa, .string (Bs t), .string (Bs u), Sl.v m, Sl.v al], .agg #[.int .i64 ab, .string (Bs x), .string (Bs y), Sl.v q, Sl.v am]] Tryz.func67 rfl Tryz.ntmps67 rfl ?_
 intro a0 bQ
 unfold ref05_Node.vc at bP
 refine wp_seq (wp_region_lit ?_)
 refine sq (opk_new (fun B => .pointer (some ⟨B, 0, none⟩)) bQ rfl (r_box (cs := [.int .i64 aa, .string (Bs t), .string (Bs u), Sl.v m, Sl.v al]) (bQ.get rfl) rfl) fun a5 w4 k d0 d1 bS bT _ => ?_)
 have d2 : New w k w4 := d1
 have bU : Chg [] w w4 := d0
 refine sq (opk_new (fun B => .pointer (some ⟨B, 0, none⟩)) bT rfl (r_box (cs := [.int .i64 ab, .string (Bs x), .string (Bs y), Sl.v q, Sl.v am]) (bT.get rfl) rfl) fun hp av j a6 bV a7 d3 _ => ?_)
 have d4 : k ≠ j := Nat.ne_of_lt (Nat.lt_of_lt_of_le bS.lt bV.ge)
 have d5 := New.of bU bV
 have a8 := bS.ext a6
 have d6 := bU.more a6
 have d7 := d2.up a6.size
 refine sqv d3 rfl (r_assign rfl) fun _ d8 => sq_end ?_
 have bX := d8.kp [(2, .pointer (some (⟨k, 0, none⟩ : Addr))), (3, .pointer (some (⟨j, 0, none⟩ : Addr)))] rfl
 refine then_normal (wp_seq (wp_region_lit ?_))
 refine sqv bX rfl (r_fieldAddr (bX.get rfl) Tryz.underlying39 rfl ti_3 (by decide)) fun _ bY => sqv bY rfl (r_load1 tU3 rfl (bY.get rfl) (a8.cell 0 _ rfl)) fun _ bZ => sqv bZ rfl (r_fieldAddr (bZ.get rfl) Tryz.underlying39 rfl ti_3 (by decide)) fun _ b0 => sqv b0 rfl (r_load1 tU3 rfl (b0.get rfl) (a7.cell 0 _ rfl)) fun _ a9 => sqv a9 rfl (r_lss (a9.get rfl) (a9.get rfl)) fun _ b1 => sqv b1 rfl (r_fieldAddr (b1.get rfl) Tryz.underlying39 rfl ti_3 (by decide)) fun _ b2 => sqv b2 rfl (r_load1 tU3 rfl (b2.get rfl) (a8.cell 0 _ rfl)) fun _ b3 => sqv b3 rfl (r_fieldAddr (b3.get rfl) Tryz.underlying39 rfl ti_3 (by decide)) fun _ b4 => ?_
 refine sqv b4 rfl (r_load1 tU3 rfl (b4.get rfl) (a7.cell 0 _ rfl)) fun _ ba => sqv ba rfl (r_gtr (ba.get rfl) (ba.get rfl)) fun _ bb => ?_
 have d9 := bP av k j d7 d5 d4 d6
 refine sq (opk_call bb rfl (r_call (args := #[.bool (decide (aa < ab)), .bool (decide (ab < aa))]) Tryz.func68 (by decide) rfl (map_arr (ml_cons (bb.get rfl) (ml_cons (bb.get rfl) ml_nil))) rfl) d9 fun hq hr w37 b5 _ b6 hs fa => ?_)
 obtain ⟨aj, rfl, fb⟩ := fa
 have aT := a8.kept b6 (.head _)
 have aU := a7.kept b6 (.tail _ (.head _))
 refine sqv b5 rfl (r_assign (b5.get rfl)) fun _ fc => sq_end ?_
 have b7 := fc.kp [(2, .pointer (some (⟨k, 0, none⟩ : Addr))), (3, .pointer (some (⟨j, 0, none⟩ : Addr))), (5, .int .i64 aj)] rfl
 refine then_normal (wp_seq (wp_seq (wp_region_lit ?_)))
 refine sqv b7 rfl (r_move (b7.get rfl)) fun _ b8 => sqv b8 rfl (r_eql (b8.get rfl) rfl) fun _ fd => sq_end ?_
 have aV := fd.kp [(2, .pointer (some (⟨k, 0, none⟩ : Addr))), (3, .pointer (some (⟨j, 0, none⟩ : Addr))), (5, .int .i64 aj), (21, .bool (decide (aj = 0)))] rfl
 refine then_normal ?_
 obtain ⟨aH, b9, ff⟩ := fb
 refine wp_meet (fun a w => ∃ z : Int, Ag 131 a [(2, .pointer (some (⟨k, 0, none⟩ : Addr))), (3, .pointer (some (⟨j, 0, none⟩ : Addr))), (5, .int .i64 z)] ∧ Box w k 39 [.int .i64 aa, .string (Bs t), .string (Bs u), Sl.v m, Sl.v al] ∧ Box w j 39 [.int .i64 ab, .string (Bs x), .string (Bs y), Sl.v q, Sl.v am] ∧ aH z w) ?_ ?_
 ·refine wp_cond_split (aV.get rfl) (fun hc => ?_) (fun hc => ?_)
  ·have fg := b9.1 (of_decide_eq_true hc)
   clear hc
   refine wp_region_lit ?_
   refine sqv aV rfl (r_fieldAddr (aV.get rfl) Tryz.underlying39 rfl ti_9 (by decide)) fun _ ca => sqv ca rfl (r_load1 tU9 rfl (ca.get rfl) (aT.cell 1 _ rfl)) fun _ cb => sqv cb rfl (r_fieldAddr (cb.get rfl) Tryz.underlying39 rfl ti_9 (by decide)) fun _ cc => sqv cc rfl (r_load1 tU9 rfl (cc.get rfl) (aU.cell 1 _ rfl)) fun _ bd => sqv bd rfl (r_slss (bd.get rfl) (bd.get rfl)) fun _ cd => sqv cd rfl (r_fieldAddr (cd.get rfl) Tryz.underlying39 rfl ti_9 (by decide)) fun _ cf => sqv cf rfl (r_load1 tU9 rfl (cf.get rfl) (aT.cell 1 _ rfl)) fun _ cg => sqv cg rfl (r_fieldAddr (cg.get rfl) Tryz.underlying39 rfl ti_9 (by decide)) fun _ ch => ?_
   refine sqv ch rfl (r_load1 tU9 rfl (ch.get rfl) (aU.cell 1 _ rfl)) fun _ bf => sqv bf rfl (r_sgtr (bf.get rfl) (bf.get rfl)) fun _ bg => ?_
   refine sq (opk_call bg rfl (r_call (args := #[.bool (Op.bytesLess t x), .bool (!((Op.bytesLess t x) || (decide (t = x))))]) Tryz.func68 (by decide) rfl (map_arr (ml_cons (bg.get rfl) (ml_cons (bg.get rfl) ml_nil))) rfl) fg fun ht hu bM ci _ cj hv fh => ?_)
   obtain ⟨ax, rfl, fi⟩ := fh
   have fj := aT.kept cj (.head _)
   have fk := aU.kept cj (.tail _ (.head _))
   refine sqv ci rfl (r_assign (ci.get rfl)) fun _ fl => sq_end ?_
   have fm := fl.kp [(2, .pointer (some (⟨k, 0, none⟩ : Addr))), (3, .pointer (some (⟨j, 0, none⟩ : Addr))), (5, .int .i64 ax)] rfl
   have fn := fm.kp [(2, .pointer (some (⟨k, 0, none⟩ : Addr))), (3, .pointer (some (⟨j, 0, none⟩ : Addr))), (5, .int .i64 ax)] rfl
   exact then_normal ⟨ax, fn, fj, fk, fi⟩
  ·have fo := b9.2 (of_decide_eq_false hc)
   clear hc
   refine wp_skip ?_
   have fp := aV.kp [(2, .pointer (some (⟨k, 0, none⟩ : Addr))), (3, .pointer (some (⟨j, 0, none⟩ : Addr))), (5, .int .i64 aj)] rfl
   exact then_normal ⟨aj, fp, aT, aU, fo⟩
 ·intro hx aI hm
  obtain ⟨z, ck, aX, aY, fq⟩ := hm
  have fr := ff z aI fq
  refine then_normal (wp_seq (wp_seq (wp_region_lit ?_)))
  refine sqv ck rfl (r_move (ck.get rfl)) fun _ cl => sqv cl rfl (r_eql (cl.get rfl) rfl) fun _ fs => sq_end ?_
  have aZ := fs.kp [(2, .pointer (some (⟨k, 0, none⟩ : Addr))), (3, .pointer (some (⟨j, 0, none⟩ : Addr))), (5, .int .i64 z), (34, .bool (decide (z = 0)))] rfl
  refine then_normal ?_
  obtain ⟨aJ, cm, ft⟩ := fr
  refine wp_meet (fun a w => ∃ ak : Int, Ag 131 a [(2, .pointer (some (⟨k, 0, none⟩ : Addr))), (3, .pointer (some (⟨j, 0, none⟩ : Addr))), (5, .int .i64 ak)] ∧ Box w k 39 [.int .i64 aa, .string (Bs t), .string (Bs u), Sl.v m, Sl.v al] ∧ Box w j 39 [.int .i64 ab, .string (Bs x), .string (Bs y), Sl.v q, Sl.v am] ∧ aJ ak w) ?_ ?_
  ·refine wp_cond_split (aZ.get rfl) (fun hc => ?_) (fun hc => ?_)
   ·have fu := cm.1 (of_decide_eq_true hc)
    clear hc
    refine wp_region_lit ?_
    refine sqv aZ rfl (r_fieldAddr (aZ.get rfl) Tryz.underlying39 rfl ti_9 (by decide)) fun _ cn => sqv cn rfl (r_load1 tU9 rfl (cn.get rfl) (aX.cell 2 _ rfl)) fun _ co => sqv co rfl (r_fieldAddr (co.get rfl) Tryz.underlying39 rfl ti_9 (by decide)) fun _ cp => sqv cp rfl (r_load1 tU9 rfl (cp.get rfl) (aY.cell 2 _ rfl)) fun _ bh => sqv bh rfl (r_slss (bh.get rfl) (bh.get rfl)) fun _ cq => sqv cq rfl (r_fieldAddr (cq.get rfl) Tryz.underlying39 rfl ti_9 (by decide)) fun _ cr => sqv cr rfl (r_load1 tU9 rfl (cr.get rfl) (aX.cell 2 _ rfl)) fun _ ct => sqv ct rfl (r_fieldAddr (ct.get rfl) Tryz.underlying39 rfl ti_9 (by decide)) fun _ cu => ?_
    refine sqv cu rfl (r_load1 tU9 rfl (cu.get rfl) (aY.cell 2 _ rfl)) fun _ bi => sqv bi rfl (r_sgtr (bi.get rfl) (bi.get rfl)) fun _ bj => ?_
    refine sq (opk_call bj rfl (r_call (args := #[.bool (Op.bytesLess u y), .bool (!((Op.bytesLess u y) || (decide (u = y))))]) Tryz.func68 (by decide) rfl (map_arr (ml_cons (bj.get rfl) (ml_cons (bj.get rfl) ml_nil))) rfl) fu fun hy hz bN cv _ cx hA fv => ?_)
    obtain ⟨ay, rfl, fx⟩ := fv
    have fy := aX.kept cx (.head _)
    have fz := aY.kept cx (.tail _ (.head _))
    refine sqv cv rfl (r_assign (cv.get rfl)) fun _ fA => sq_end ?_
    have fB := fA.kp [(2, .pointer (some (⟨k, 0, none⟩ : Addr))), (3, .pointer (some (⟨j, 0, none⟩ : Addr))), (5, .int .i64 ay)] rfl
    have fC := fB.kp [(2, .pointer (some (⟨k, 0, none⟩ : Addr))), (3, .pointer (some (⟨j, 0, none⟩ : Addr))), (5, .int .i64 ay)] rfl
    exact then_normal ⟨ay, fC, fy, fz, fx⟩
   ·have fD := cm.2 (of_decide_eq_false hc)
    clear hc
    refine wp_skip ?_
    have fF := aZ.kp [(2, .pointer (some (⟨k, 0, none⟩ : Addr))), (3, .pointer (some (⟨j, 0, none⟩ : Addr))), (5, .int .i64 z)] rfl
    exact then_normal ⟨z, fF, aX, aY, fD⟩
  ·intro hC aK hm
   obtain ⟨ak, fG, fH, fI, fJ⟩ := hm
   have fK := ft ak aK fJ
   refine then_normal (wp_seq (wp_seq (wp_region_lit ?_)))
   refine sqv fG rfl (r_assign rfl) fun _ fL => sq_end ?_
   have fM := fL.kp [(2, .pointer (some (⟨k, 0, none⟩ : Addr))), (3, .pointer (some (⟨j, 0, none⟩ : Addr))), (5, .int .i64 ak), (6, .int .i64 0)] rfl
   refine then_normal (wp_block ?_)
   obtain ⟨aL, aR, fN, fO⟩ := fK
   refine wp_loop_st (σ := Int × Int × World) (fun s a w => Ag 131 a [(2, .pointer (some (⟨k, 0, none⟩ : Addr))), (3, .pointer (some (⟨j, 0, none⟩ : Addr))), (5, .int .i64 s.1), (6, .int .i64 s.2.1)] ∧ Box w k 39 [.int .i64 aa, .string (Bs t), .string (Bs u), Sl.v m, Sl.v al] ∧ Box w j 39 [.int .i64 ab, .string (Bs x), .string (Bs y), Sl.v q, Sl.v am] ∧ w = s.2.2 ∧ aL s.1 s.2.1 s.2.2) (fun s => aR s.1 s.2.1 s.2.2) (ak, 0, aK) ⟨fM.kp [(2, .pointer (some (⟨k, 0, none⟩ : Addr))), (3, .pointer (some (⟨j, 0, none⟩ : Addr))), (5, .int .i64 ak), (6, .int .i64 0)] rfl, fH, fI, rfl, fN⟩ ?_
   rintro ⟨l, f, an⟩ hD w_ ⟨cy, aN, aO, hw_, fP⟩
   have hw_ : an = w_ := hw_.symm
   subst hw_
   have cz := fO l f _ fP
   refine wp_seq (wp_seq (wp_region_lit ?_))
   refine sqv cy rfl (r_move (cy.get rfl)) fun _ cA => sqv cA rfl (r_eql (cA.get rfl) rfl) fun _ cB => sqv cB rfl (r_move (cB.get rfl)) fun _ cC => ?_
   refine sq (opk_gval cC rfl rfl (g := true) (e := (decide (l = 0))) rfl (fun hg => r_move (cC.get rfl)) fun hF cD _ => ?_)
   refine sq (opk_gval cD rfl rfl (g := true) (e := (decide (l = 0))) rfl (fun hg => r_fieldAddr (cD.get rfl) Tryz.underlying39 rfl ti_36 (by decide)) fun hG cF _ => ?_)
   refine sq (opk_gval cF rfl rfl (g := true) (e := (decide (l = 0))) rfl (fun hg => r_load1 tU36 rfl (cv_get (cF.get rfl) hg) (aN.cell 3 _ rfl)) fun hH cG _ => ?_)
   refine sq (opk_gval cG rfl rfl (g := true) (e := (decide (l = 0))) rfl (fun hg => r_len (cv_get (cG.get rfl) hg) tU36) fun hI bk _ => ?_)
   refine sq (opk_gval bk rfl rfl (g := true) (e := (decide (l = 0))) rfl (fun hg => r_lss (cv_get (bk.get rfl) hg) (cv_get (bk.get rfl) hg)) fun hJ bl _ => ?_)
   refine sqv bl rfl (r_pick_and (g := (true && ((decide (l = 0)) == true))) (bl.get rfl) (bl.get rfl) (fun he => g_mkt rfl he)) fun _ cH => sqv cH rfl (r_move (cH.get rfl)) fun _ cI => ?_
   refine sq (opk_gval cI rfl rfl (g := true) (e := ((decide (l = 0)) && (decide (f < (m.n : Int))))) rfl (fun hg => r_move (cI.get rfl)) fun hK cJ _ => ?_)
   refine sq (opk_gval cJ rfl rfl (g := true) (e := ((decide (l = 0)) && (decide (f < (m.n : Int))))) rfl (fun hg => r_fieldAddr (cJ.get rfl) Tryz.underlying39 rfl ti_36 (by decide)) fun hL cK _ => ?_)
   refine sq (opk_gval cK rfl rfl (g := true) (e := ((decide (l = 0)) && (decide (f < (m.n : Int))))) rfl (fun hg => r_load1 tU36 rfl (cv_get (cK.get rfl) hg) (aO.cell 3 _ rfl)) fun hM cL _ => ?_)
   refine sq (opk_gval cL rfl rfl (g := true) (e := ((decide (l = 0)) && (decide (f < (m.n : Int))))) rfl (fun hg => r_len (cv_get (cL.get rfl) hg) tU36) fun hN bm _ => ?_)
   refine sq (opk_gval bm rfl rfl (g := true) (e := ((decide (l = 0)) && (decide (f < (m.n : Int))))) rfl (fun hg => r_lss (cv_get (bm.get rfl) hg) (cv_get (bm.get rfl) hg)) fun hO bn _ => ?_)
   refine sqv bn rfl (r_pick_and (g := (true && (((decide (l = 0)) && (decide (f < (m.n : Int)))) == true))) (bn.get rfl) (bn.get rfl) (fun he => g_mkt rfl he)) fun _ fQ => sq_end ?_
   have r := fQ.kp [(2, .pointer (some (⟨k, 0, none⟩ : Addr))), (3, .pointer (some (⟨j, 0, none⟩ : Addr))), (5, .int .i64 l), (6, .int .i64 f), (61, .bool (((decide (l = 0)) && (decide (f < (m.n : Int)))) && (decide (f < (q.n : Int)))))] rfl
   refine then_normal ?_
   refine wp_cond_split (r.get rfl) (fun hc => ?_) (fun hc => ?_)
   ·have fR := cz.1 ⟨⟨(of_decide_eq_true (b_and_t (b_and_t hc).1).1), (of_decide_eq_true (b_and_t (b_and_t hc).1).2)⟩, (of_decide_eq_true (b_and_t hc).2)⟩
    clear hc
    refine wp_skip ?_
    refine then_normal (wp_seq (wp_block (wp_seq ?_)))
    refine draw' (by kernel_rfl) fun ad bo => ?_
    have hB400 := aN.ext bo
    have a1 := aO.ext bo
    have fS : Chg [] an ad := bo
    have fT := fR ad    fS
    obtain ⟨az, a2, fU⟩ := fT
    obtain ⟨b, af, bp, fV⟩ := fU
    obtain ⟨aq, aB, fX⟩ := fV
    obtain ⟨d, ah, bq, fY⟩ := fX
    refine startF (D := [[], [0], [], [0, 1, 2], [0, 1, 2, 3], [], [5], [], [5, 6, 7], [5, 6, 7, 8], [], [], [0, 1, 2, 3, 4, 10, 11], [0, 1, 2, 3, 4, 5, 6, 7, 8, 9, 10, 11, 12]]) (Fs := [0, 1, 2, 3, 4, 5, 6, 7, 8, 9]) (Ef := [(0, fun v _ => v = .pointer (some (⟨k, 3, none⟩ : Addr))), (1, fun v _ => v = Sl.v m), (2, fun v _ => v = .int .i64 f), (3, fun v _ => v = .pointer (some (az.add (f.toNat * 2)))), (4, fun v _ => v = .agg #[.string (Bs b), .string (Bs af)]), (5, fun v _ => v = .pointer (some (⟨j, 3, none⟩ : Addr))), (6, fun v _ => v = Sl.v q), (7, fun v _ => v = .int .i64 f), (8, fun v _ => v = .pointer (some (aq.add (f.toNat * 2)))), (9, fun v _ => v = .agg #[.string (Bs d), .string (Bs ah)])]) (by kernel_rfl) ?_
    refine parFN (D := [[], [0], [], [0, 1, 2], [0, 1, 2, 3], [], [5], [], [5, 6, 7], [5, 6, 7, 8], [], [], [0, 1, 2, 3, 4, 10, 11], [0, 1, 2, 3, 4, 5, 6, 7, 8, 9, 10, 11, 12]]) (S := [10, 11]) (F := []) (KE := [10, 11]) (N := [10, 11]) (E := [(10, fun v w' => ∃ o : Nat, ad.heap.size ≤ o ∧ Box w' o 91 [.string (Bs []), .string (Bs [])] ∧ v = .pointer (some (⟨o, 0, none⟩ : Addr))), (11, fun v w' => ∃ p : Nat, ad.heap.size ≤ p ∧ Box w' p 91 [.string (Bs []), .string (Bs [])] ∧ v = .pointer (some (⟨p, 0, none⟩ : Addr)))]) r rfl (by kernel_rfl) (blkF ⟨fun _ _ h => by obtain ⟨o, _, hB, rfl⟩ := h; exact hB.lt, fun _ _ h => by obtain ⟨p, _, hB, rfl⟩ := h; exact hB.lt, trivial⟩) ⟨fun _ _ _ hE ⟨o, h0_, h1_, e⟩ => ⟨o, h0_, (h1_.ext hE), e⟩, fun _ _ _ hE ⟨p, h0_, h1_, e⟩ => ⟨p, h0_, (h1_.ext hE), e⟩, fun _ _ _ _ h => h, fun _ _ _ _ h => h, fun _ _ _ _ h => h, fun _ _ _ _ h => h, fun _ _ _ _ h => h, fun _ _ _ _ h => h, fun _ _ _ _ h => h, fun _ _ _ _ h => h, fun _ _ _ _ h => h, fun _ _ _ _ h => h, trivial⟩ ⟨?_, ?_, ?_, ?_, ?_, ?_, ?_, ?_, ?_, ?_, ?_, ?_, trivial⟩ ?_
    ·intro a w hT
     have hAp := hT.ag r [] trivial (by kernel_rfl)
     exact opk_new (fun B => .pointer (some ⟨B, 0, none⟩)) hAp rfl (r_alloc (cs := [.string (Bs []), .string (Bs [])]) ti_91 rfl) fun _ hP o fZ cM f0 _ e => ⟨_, e, fZ, fun _ => ⟨o, Nat.le_trans hT.chg.size cM.ge, f0, rfl⟩, fun _ => cM.ge⟩
    ·intro a w hT
     have hAp := hT.ag r [] trivial (by kernel_rfl)
     exact opk_new (fun B => .pointer (some ⟨B, 0, none⟩)) hAp rfl (r_alloc (cs := [.string (Bs []), .string (Bs [])]) ti_91 rfl) fun _ hQ p f1 cN f2 _ e => ⟨_, e, f1, fun _ => ⟨p, Nat.le_trans hT.chg.size cN.ge, f2, rfl⟩, fun _ => cN.ge⟩
    ·intro a w hT
     refine overN_of rfl ?_
     have hAp := hT.ag r [(2, .pointer (some (⟨k, 0, none⟩ : Addr)))] ⟨rfl, trivial⟩ (by kernel_rfl)
     exact ovr hAp rfl (r_fieldAddr (hAp.get rfl) Tryz.underlying39 rfl ti_36 (by decide)) fun _ => Eq.refl _
    ·intro a w hT
     refine overN_of rfl ?_
     have hAp := hT.ag r [] trivial (by kernel_rfl)
     have f3 : a.tmps.getD 64 undef = .pointer (some (⟨k, 3, none⟩ : Addr)) := hT.vals 0 rfl 64 rfl
     have hAp := hAp.add f3
     exact ovr hAp rfl (r_load1 tU36 rfl (hAp.get rfl) ((hB400.ext hT.chg).cell 3 _ rfl)) fun _ => Eq.refl _
    ·intro a w hT
     refine overN_of rfl ?_
     have hAp := hT.ag r [(6, .int .i64 f)] ⟨rfl, trivial⟩ (by kernel_rfl)
     exact ovr hAp rfl (r_move (hAp.get rfl)) fun _ => Eq.refl _
    ·intro a w hT
     refine overN_of rfl ?_
     have hAp := hT.ag r [] trivial (by kernel_rfl)
     have f4 : a.tmps.getD 65 undef = Sl.v m := hT.vals 1 rfl 65 rfl
     have hAp := hAp.add f4
     have f5 : a.tmps.getD 66 undef = .int .i64 f := hT.vals 2 rfl 66 rfl
     have hAp := hAp.add f5
     exact ovr hAp rfl (r_indexAddr (hAp.get rfl) (hAp.get rfl) tU36 ti_91 a2.1 a2.2) fun _ => Eq.refl _
    ·intro a w hT
     refine overN_of rfl ?_
     have hAp := hT.ag r [] trivial (by kernel_rfl)
     have f6 : a.tmps.getD 67 undef = .pointer (some (az.add (f.toNat * 2))) := hT.vals 3 rfl 67 rfl
     have hAp := hAp.add f6
     exact ovr hAp rfl (r_loadN Tryz.underlying91 rfl ti_91 (hAp.get rfl) (bp.ext hT.chg)) fun _ => Eq.refl _
    ·intro a w hT
     refine overN_of rfl ?_
     have hAp := hT.ag r [(3, .pointer (some (⟨j, 0, none⟩ : Addr)))] ⟨rfl, trivial⟩ (by kernel_rfl)
     exact ovr hAp rfl (r_fieldAddr (hAp.get rfl) Tryz.underlying39 rfl ti_36 (by decide)) fun _ => Eq.refl _
    ·intro a w hT
     refine overN_of rfl ?_
     have hAp := hT.ag r [] trivial (by kernel_rfl)
     have f7 : a.tmps.getD 69 undef = .pointer (some (⟨j, 3, none⟩ : Addr)) := hT.vals 5 rfl 69 rfl
     have hAp := hAp.add f7
     exact ovr hAp rfl (r_load1 tU36 rfl (hAp.get rfl) ((a1.ext hT.chg).cell 3 _ rfl)) fun _ => Eq.refl _
    ·intro a w hT
     refine overN_of rfl ?_
     have hAp := hT.ag r [(6, .int .i64 f)] ⟨rfl, trivial⟩ (by kernel_rfl)
     exact ovr hAp rfl (r_move (hAp.get rfl)) fun _ => Eq.refl _
    ·intro a w hT
     refine overN_of rfl ?_
     have hAp := hT.ag r [] trivial (by kernel_rfl)
     have f8 : a.tmps.getD 70 undef = Sl.v q := hT.vals 6 rfl 70 rfl
     have hAp := hAp.add f8
     have f9 : a.tmps.getD 71 undef = .int .i64 f := hT.vals 7 rfl 71 rfl
     have hAp := hAp.add f9
     exact ovr hAp rfl (r_indexAddr (hAp.get rfl) (hAp.get rfl) tU36 ti_91 aB.1 aB.2) fun _ => Eq.refl _
    ·intro a w hT
     refine overN_of rfl ?_
     have hAp := hT.ag r [] trivial (by kernel_rfl)
     have ga : a.tmps.getD 72 undef = .pointer (some (aq.add (f.toNat * 2))) := hT.vals 8 rfl 72 rfl
     have hAp := hAp.add ga
     exact ovr hAp rfl (r_loadN Tryz.underlying91 rfl ti_91 (hAp.get rfl) (bq.ext hT.chg)) fun _ => Eq.refl _
    ·intro hR ao aC gb cO gc
     have gd := gb [(2, .pointer (some (⟨k, 0, none⟩ : Addr))), (3, .pointer (some (⟨j, 0, none⟩ : Addr))), (6, .int .i64 f)] ⟨rfl, rfl, rfl, trivial⟩ (by kernel_rfl)
     obtain ⟨o, aP, br, cP⟩ := cO 10 rfl 7 rfl
     have gf := gd.add cP
     obtain ⟨p, bs, cQ, cR⟩ := cO 11 rfl 8 rfl
     have ai := gf.add cR
     have cS : o ≠ p := by have h := gc 10 11 rfl 7 8 rfl rfl; rw [cP, cR] at h; exact h
     have cT := hB400.ext aC
     have cU := a1.ext aC
     have hS : Chg [] ad ao := aC
     have cX := bp.ext aC
     have cY := bq.ext aC
     have gg := fY ao o p aC aP br bs cQ
     have gh : k ≠ o := Nat.ne_of_lt (Nat.lt_of_lt_of_le hB400.lt aP)
     have gi : j ≠ o := Nat.ne_of_lt (Nat.lt_of_lt_of_le a1.lt aP)
     have gj : k ≠ p := Nat.ne_of_lt (Nat.lt_of_lt_of_le hB400.lt bs)
     have gk : j ≠ p := Nat.ne_of_lt (Nat.lt_of_lt_of_le a1.lt bs)
     refine oneF (c := 12) ai rfl (by kernel_rfl) (constF ⟨fun _ _ _ h => h, fun _ _ _ h => h, fun _ _ _ h => h, fun _ _ _ h => h, fun _ _ _ h => h, fun _ _ _ h => h, fun _ _ _ h => h, fun _ _ _ h => h, fun _ _ _ h => h, fun _ _ _ h => h, trivial⟩) ⟨?_, ?_, ?_, ?_, ?_, ?_, ?_, ?_, ?_, ?_, trivial⟩ ?_
     ·intro a hT
      have hAp := hT.ag ai [(2, .pointer (some (⟨k, 0, none⟩ : Addr)))] ⟨rfl, trivial⟩ (by kernel_rfl)
      exact opk_val hAp rfl (r_fieldAddr (hAp.get rfl) Tryz.underlying39 rfl ti_36 (by decide)) fun _ _ e => ⟨_, e, rfl, fun _ => Eq.refl _⟩
     ·intro a hT
      have hAp := hT.ag ai [] trivial (by kernel_rfl)
      have gl : a.tmps.getD 64 undef = .pointer (some (⟨k, 3, none⟩ : Addr)) := hT.vals 0 rfl 64 rfl
      have hAp := hAp.add gl
      exact opk_val hAp rfl (r_load1 tU36 rfl (hAp.get rfl) ((cT.ext hT.chg).cell 3 _ rfl)) fun _ _ e => ⟨_, e, rfl, fun _ => Eq.refl _⟩
     ·intro a hT
      have hAp := hT.ag ai [(6, .int .i64 f)] ⟨rfl, trivial⟩ (by kernel_rfl)
      exact opk_val hAp rfl (r_move (hAp.get rfl)) fun _ _ e => ⟨_, e, rfl, fun _ => Eq.refl _⟩
     ·intro a hT
      have hAp := hT.ag ai [] trivial (by kernel_rfl)
      have gm : a.tmps.getD 65 undef = Sl.v m := hT.vals 1 rfl 65 rfl
      have hAp := hAp.add gm
      have gn : a.tmps.getD 66 undef = .int .i64 f := hT.vals 2 rfl 66 rfl
      have hAp := hAp.add gn
      exact opk_val hAp rfl (r_indexAddr (hAp.get rfl) (hAp.get rfl) tU36 ti_91 a2.1 a2.2) fun _ _ e => ⟨_, e, rfl, fun _ => Eq.refl _⟩
     ·intro a hT
      have hAp := hT.ag ai [] trivial (by kernel_rfl)
      have go : a.tmps.getD 67 undef = .pointer (some (az.add (f.toNat * 2))) := hT.vals 3 rfl 67 rfl
      have hAp := hAp.add go
      exact opk_val hAp rfl (r_loadN Tryz.underlying91 rfl ti_91 (hAp.get rfl) (cX.ext hT.chg)) fun _ _ e => ⟨_, e, rfl, fun _ => Eq.refl _⟩
     ·intro a hT
      have hAp := hT.ag ai [(3, .pointer (some (⟨j, 0, none⟩ : Addr)))] ⟨rfl, trivial⟩ (by kernel_rfl)
      exact opk_val hAp rfl (r_fieldAddr (hAp.get rfl) Tryz.underlying39 rfl ti_36 (by decide)) fun _ _ e => ⟨_, e, rfl, fun _ => Eq.refl _⟩
     ·intro a hT
      have hAp := hT.ag ai [] trivial (by kernel_rfl)
      have gp : a.tmps.getD 69 undef = .pointer (some (⟨j, 3, none⟩ : Addr)) := hT.vals 5 rfl 69 rfl
      have hAp := hAp.add gp
      exact opk_val hAp rfl (r_load1 tU36 rfl (hAp.get rfl) ((cU.ext hT.chg).cell 3 _ rfl)) fun _ _ e => ⟨_, e, rfl, fun _ => Eq.refl _⟩
     ·intro a hT
      have hAp := hT.ag ai [(6, .int .i64 f)] ⟨rfl, trivial⟩ (by kernel_rfl)
      exact opk_val hAp rfl (r_move (hAp.get rfl)) fun _ _ e => ⟨_, e, rfl, fun _ => Eq.refl _⟩
     ·intro a hT
      have hAp := hT.ag ai [] trivial (by kernel_rfl)
      have gq : a.tmps.getD 70 undef = Sl.v q := hT.vals 6 rfl 70 rfl
      have hAp := hAp.add gq
      have gr : a.tmps.getD 71 undef = .int .i64 f := hT.vals 7 rfl 71 rfl
      have hAp := hAp.add gr
      exact opk_val hAp rfl (r_indexAddr (hAp.get rfl) (hAp.get rfl) tU36 ti_91 aB.1 aB.2) fun _ _ e => ⟨_, e, rfl, fun _ => Eq.refl _⟩
     ·intro a hT
      have hAp := hT.ag ai [] trivial (by kernel_rfl)
      have gs : a.tmps.getD 72 undef = .pointer (some (aq.add (f.toNat * 2))) := hT.vals 8 rfl 72 rfl
      have hAp := hAp.add gs
      exact opk_val hAp rfl (r_loadN Tryz.underlying91 rfl ti_91 (hAp.get rfl) (cY.ext hT.chg)) fun _ _ e => ⟨_, e, rfl, fun _ => Eq.refl _⟩
     ·intro gu hT
      have gx := hT.ag ai [(2, .pointer (some (⟨k, 0, none⟩ : Addr))), (3, .pointer (some (⟨j, 0, none⟩ : Addr))), (6, .int .i64 f), (7, .pointer (some (⟨o, 0, none⟩ : Addr))), (8, .pointer (some (⟨p, 0, none⟩ : Addr)))] ⟨rfl, rfl, rfl, rfl, rfl, trivial⟩ (by kernel_rfl)
      have gy : gu.tmps.getD 68 undef = .agg #[.string (Bs b), .string (Bs af)] := hT.vals 4 rfl 68 rfl
      have bt := gx.add gy
      refine opk_storeF bt br (r_store (vs := [.string (Bs b), .string (Bs af)]) (bt.get rfl) (bt.get rfl) rfl ti_91 br rfl (ones_all _ rfl)) fun cZ aD gz gA => ⟨undef, Eq.refl _, ?_⟩
      have gB : Box cZ o 91 [.string (Bs b), .string (Bs af)] := gz
      have gC := cT.keep aD (by simpa using gh)
      have c0 := cU.keep aD (by simpa using gi)
      have gD := cQ.keep aD (by simpa using cS.symm)
      have gF : Chg [o] ao cZ := aD
      have hU := cX.chg aD (Cells.apart bp aP)
      have c1 := cY.chg aD (Cells.apart bq aP)
      refine PRF_drop (X := [0, 1, 2, 3, 4]) (Fs' := [5, 6, 7, 8, 9]) gA (by kernel_rfl) fun hV gG hX => ?_
      have aF := gG [(2, .pointer (some (⟨k, 0, none⟩ : Addr))), (3, .pointer (some (⟨j, 0, none⟩ : Addr))), (6, .int .i64 f), (7, .pointer (some (⟨o, 0, none⟩ : Addr))), (8, .pointer (some (⟨p, 0, none⟩ : Addr)))] ⟨rfl, rfl, rfl, rfl, rfl, trivial⟩ (by kernel_rfl)
      refine joinF aF (by kernel_rfl) ⟨fun _ _ _ _ h => h, fun _ _ _ _ h => h, fun _ _ _ _ h => h, fun _ _ _ _ h => h, fun _ _ _ _ h => h, trivial⟩ ⟨?_, ?_, ?_, ?_, ?_, trivial⟩ ?_
      ·intro a w hT
       have hAp := hT.ag aF [(3, .pointer (some (⟨j, 0, none⟩ : Addr)))] ⟨rfl, trivial⟩ (by kernel_rfl)
       exact ovr hAp rfl (r_fieldAddr (hAp.get rfl) Tryz.underlying39 rfl ti_36 (by decide)) fun _ => Eq.refl _
      ·intro a w hT
       have hAp := hT.ag aF [] trivial (by kernel_rfl)
       have gH : a.tmps.getD 69 undef = .pointer (some (⟨j, 3, none⟩ : Addr)) := hT.vals 5 rfl 69 rfl
       have hAp := hAp.add gH
       exact ovr hAp rfl (r_load1 tU36 rfl (hAp.get rfl) ((c0.ext hT.chg).cell 3 _ rfl)) fun _ => Eq.refl _
      ·intro a w hT
       have hAp := hT.ag aF [(6, .int .i64 f)] ⟨rfl, trivial⟩ (by kernel_rfl)
       exact ovr hAp rfl (r_move (hAp.get rfl)) fun _ => Eq.refl _
      ·intro a w hT
       have hAp := hT.ag aF [] trivial (by kernel_rfl)
       have gI : a.tmps.getD 70 undef = Sl.v q := hT.vals 6 rfl 70 rfl
       have hAp := hAp.add gI
       have gJ : a.tmps.getD 71 undef = .int .i64 f := hT.vals 7 rfl 71 rfl
       have hAp := hAp.add gJ
       exact ovr hAp rfl (r_indexAddr (hAp.get rfl) (hAp.get rfl) tU36 ti_91 aB.1 aB.2) fun _ => Eq.refl _
      ·intro a w hT
       have hAp := hT.ag aF [] trivial (by kernel_rfl)
       have gK : a.tmps.getD 72 undef = .pointer (some (aq.add (f.toNat * 2))) := hT.vals 8 rfl 72 rfl
       have hAp := hAp.add gK
       exact ovr hAp rfl (r_loadN Tryz.underlying91 rfl ti_91 (hAp.get rfl) (c1.ext hT.chg)) fun _ => Eq.refl _
      ·intro gL hY aG gM gN
       have gO := gM [(2, .pointer (some (⟨k, 0, none⟩ : Addr))), (3, .pointer (some (⟨j, 0, none⟩ : Addr))), (6, .int .i64 f), (7, .pointer (some (⟨o, 0, none⟩ : Addr))), (8, .pointer (some (⟨p, 0, none⟩ : Addr)))] ⟨rfl, rfl, rfl, rfl, rfl, trivial⟩ (by kernel_rfl)
       have gP : gL.tmps.getD 73 undef = .agg #[.string (Bs d), .string (Bs ah)] := gN 9 rfl 73 rfl
       have bu := gO.add gP
       have gQ := gC.ext aG
       have gR := c0.ext aG
       have gS := gB.ext aG
       have c2 := gD.ext aG
       have gT := gF.more aG
       have hZ := c1.ext aG
       refine one (D := [[], [0], [], [0, 1, 2], [0, 1, 2, 3], [], [5], [], [5, 6, 7], [5, 6, 7, 8], [], [], [0, 1, 2, 3, 4, 10, 11], [0, 1, 2, 3, 4, 5, 6, 7, 8, 9, 10, 11, 12]]) (i := 13) rfl (by kernel_rfl) (opk_store bu c2 (r_store (vs := [.string (Bs d), .string (Bs ah)]) (bu.get rfl) (bu.get rfl) rfl ti_91 c2 rfl (ones_all _ rfl)) fun h0 aM a3 gU gV => ?_)
       have ar : Box aM p 91 [.string (Bs d), .string (Bs ah)] := gU
       have gX := gQ.keep a3 (by simpa using gj)
       have gY := gR.keep a3 (by simpa using gk)
       have au := gS.keep a3 (by simpa using cS)
       have gZ := gT.storeOld a3
       refine PR_end (by kernel_rfl) ?_
       have c3 := gV.kp [(2, .pointer (some (⟨k, 0, none⟩ : Addr))), (3, .pointer (some (⟨j, 0, none⟩ : Addr))), (6, .int .i64 f), (7, .pointer (some (⟨o, 0, none⟩ : Addr))), (8, .pointer (some (⟨p, 0, none⟩ : Addr)))] rfl
       refine then_normal (wp_region_lit ?_)
       refine sqv c3 rfl (r_fieldAddr (c3.get rfl) Tryz.underlying91 rfl ti_9 (by decide)) fun _ c4 => sqv c4 rfl (r_load1 tU9 rfl (c4.get rfl) (au.cell 0 _ rfl)) fun _ c5 => sqv c5 rfl (r_fieldAddr (c5.get rfl) Tryz.underlying91 rfl ti_9 (by decide)) fun _ c6 => sqv c6 rfl (r_load1 tU9 rfl (c6.get rfl) (ar.cell 0 _ rfl)) fun _ bv => sqv bv rfl (r_slss (bv.get rfl) (bv.get rfl)) fun _ c7 => sqv c7 rfl (r_move (c7.get rfl)) fun _ c8 => ?_
       refine sq (opk_gval c8 rfl rfl (g := true) (e := (Op.bytesLess b d)) rfl (fun hg => r_fieldAddr (c8.get rfl) Tryz.underlying91 rfl ti_9 (by decide)) fun h1 c9 _ => ?_)
       refine sq (opk_gval c9 rfl rfl (g := true) (e := (Op.bytesLess b d)) rfl (fun hg => r_load1 tU9 rfl (cv_get (c9.get rfl) hg) (au.cell 0 _ rfl)) fun h2 da _ => ?_)
       refine sq (opk_gval da rfl rfl (g := true) (e := (Op.bytesLess b d)) rfl (fun hg => r_fieldAddr (da.get rfl) Tryz.underlying91 rfl ti_9 (by decide)) fun h3 db _ => ?_)
       refine sq (opk_gval db rfl rfl (g := true) (e := (Op.bytesLess b d)) rfl (fun hg => r_load1 tU9 rfl (cv_get (db.get rfl) hg) (ar.cell 0 _ rfl)) fun h4 bx _ => ?_)
       refine sq (opk_gval bx rfl rfl (g := true) (e := (Op.bytesLess b d)) rfl (fun hg => r_seql (cv_get (bx.get rfl) hg) (cv_get (bx.get rfl) hg)) fun h5 dc _ => ?_)
       refine sq (opk_gval dc rfl rfl (g := true) (e := (Op.bytesLess b d)) rfl (fun hg => r_move (cv_get (dc.get rfl) hg)) fun h6 dd _ => ?_)
       refine sq (opk_gval dd rfl rfl (g := (true && ((Op.bytesLess b d) == false))) (e := (decide (b = d))) rfl (fun hg => r_fieldAddr (dd.get rfl) Tryz.underlying91 rfl ti_9 (by decide)) fun h7 df _ => ?_)
       refine sq (opk_gval df rfl rfl (g := (true && ((Op.bytesLess b d) == false))) (e := (decide (b = d))) rfl (fun hg => r_load1 tU9 rfl (cv_get (df.get rfl) hg) (au.cell 1 _ rfl)) fun h8 dg _ => ?_)
       refine sq (opk_gval dg rfl rfl (g := (true && ((Op.bytesLess b d) == false))) (e := (decide (b = d))) rfl (fun hg => r_fieldAddr (dg.get rfl) Tryz.underlying91 rfl ti_9 (by decide)) fun h9 dh _ => ?_)
       refine sq (opk_gval dh rfl rfl (g := (true && ((Op.bytesLess b d) == false))) (e := (decide (b = d))) rfl (fun hg => r_load1 tU9 rfl (cv_get (dh.get rfl) hg) (ar.cell 1 _ rfl)) fun ia bz _ => ?_)
       refine sq (opk_gval bz rfl rfl (g := (true && ((Op.bytesLess b d) == false))) (e := (decide (b = d))) rfl (fun hg => r_slss (cv_get (bz.get rfl) hg) (cv_get (bz.get rfl) hg)) fun ib bA _ => ?_)
       refine sq (opk_gval bA rfl rfl (g := true) (e := (Op.bytesLess b d)) rfl (fun hg => r_pick_and (g := ((true && ((Op.bytesLess b d) == false)) && ((decide (b = d)) == true))) (cv_get (bA.get rfl) hg) (bA.get rfl) (fun he => g_mkt hg he)) fun ig bB _ => ?_)
       refine sqv bB rfl (r_pick_or (g := (true && ((Op.bytesLess b d) == false))) (bB.get rfl) (bB.get rfl) (fun he => g_mkf rfl he)) fun _ di => sqv di rfl (r_fieldAddr (di.get rfl) Tryz.underlying91 rfl ti_9 (by decide)) fun _ dj => sqv dj rfl (r_load1 tU9 rfl (dj.get rfl) (au.cell 0 _ rfl)) fun _ dk => sqv dk rfl (r_fieldAddr (dk.get rfl) Tryz.underlying91 rfl ti_9 (by decide)) fun _ dl => sqv dl rfl (r_load1 tU9 rfl (dl.get rfl) (ar.cell 0 _ rfl)) fun _ bC => sqv bC rfl (r_sgtr (bC.get rfl) (bC.get rfl)) fun _ dm => sqv dm rfl (r_move (dm.get rfl)) fun _ dn => ?_
       refine sq (opk_gval dn rfl rfl (g := true) (e := (!((Op.bytesLess b d) || (decide (b = d))))) rfl (fun hg => r_fieldAddr (dn.get rfl) Tryz.underlying91 rfl ti_9 (by decide)) fun ih dp _ => ?_)
       refine sq (opk_gval dp rfl rfl (g := true) (e := (!((Op.bytesLess b d) || (decide (b = d))))) rfl (fun hg => r_load1 tU9 rfl (cv_get (dp.get rfl) hg) (au.cell 0 _ rfl)) fun ii dq _ => ?_)
       refine sq (opk_gval dq rfl rfl (g := true) (e := (!((Op.bytesLess b d) || (decide (b = d))))) rfl (fun hg => r_fieldAddr (dq.get rfl) Tryz.underlying91 rfl ti_9 (by decide)) fun ij dr _ => ?_)
       refine sq (opk_gval dr rfl rfl (g := true) (e := (!((Op.bytesLess b d) || (decide (b = d))))) rfl (fun hg => r_load1 tU9 rfl (cv_get (dr.get rfl) hg) (ar.cell 0 _ rfl)) fun ik bD _ => ?_)
       refine sq (opk_gval bD rfl rfl (g := true) (e := (!((Op.bytesLess b d) || (decide (b = d))))) rfl (fun hg => r_seql (cv_get (bD.get rfl) hg) (cv_get (bD.get rfl) hg)) fun il ds _ => ?_)
       refine sq (opk_gval ds rfl rfl (g := true) (e := (!((Op.bytesLess b d) || (decide (b = d))))) rfl (fun hg => r_move (cv_get (ds.get rfl) hg)) fun im dt _ => ?_)
       refine sq (opk_gval dt rfl rfl (g := (true && ((!((Op.bytesLess b d) || (decide (b = d)))) == false))) (e := (decide (b = d))) rfl (fun hg => r_fieldAddr (dt.get rfl) Tryz.underlying91 rfl ti_9 (by decide)) fun io du _ => ?_)
       refine sq (opk_gval du rfl rfl (g := (true && ((!((Op.bytesLess b d) || (decide (b = d)))) == false))) (e := (decide (b = d))) rfl (fun hg => r_load1 tU9 rfl (cv_get (du.get rfl) hg) (au.cell 1 _ rfl)) fun ip dv _ => ?_)
       refine sq (opk_gval dv rfl rfl (g := (true && ((!((Op.bytesLess b d) || (decide (b = d)))) == false))) (e := (decide (b = d))) rfl (fun hg => r_fieldAddr (dv.get rfl) Tryz.underlying91 rfl ti_9 (by decide)) fun iq dx _ => ?_)
       refine sq (opk_gval dx rfl rfl (g := (true && ((!((Op.bytesLess b d) || (decide (b = d)))) == false))) (e := (decide (b = d))) rfl (fun hg => r_load1 tU9 rfl (cv_get (dx.get rfl) hg) (ar.cell 1 _ rfl)) fun ir bF _ => ?_)
       refine sq (opk_gval bF rfl rfl (g := (true && ((!((Op.bytesLess b d) || (decide (b = d)))) == false))) (e := (decide (b = d))) rfl (fun hg => r_sgtr (cv_get (bF.get rfl) hg) (cv_get (bF.get rfl) hg)) fun it bG _ => ?_)
       refine sq (opk_gval bG rfl rfl (g := true) (e := (!((Op.bytesLess b d) || (decide (b = d))))) rfl (fun hg => r_pick_and (g := ((true && ((!((Op.bytesLess b d) || (decide (b = d)))) == false)) && ((decide (b = d)) == true))) (cv_get (bG.get rfl) hg) (bG.get rfl) (fun he => g_mkt hg he)) fun iu bH _ => ?_)
       refine sqv bH rfl (r_pick_or (g := (true && ((!((Op.bytesLess b d) || (decide (b = d)))) == false))) (bH.get rfl) (bH.get rfl) (fun he => g_mkf rfl he)) fun _ bI => ?_
       have g0 := gg aM    gZ
       refine sq (opk_call bI rfl (r_call (args := #[.bool ((Op.bytesLess b d) || ((decide (b = d)) && (Op.bytesLess af ah))), .bool ((!((Op.bytesLess b d) || (decide (b = d)))) || ((decide (b = d)) && (!((Op.bytesLess af ah) || (decide (af = ah))))))]) Tryz.func68 (by decide) rfl (map_arr (ml_cons (bI.get rfl) (ml_cons (bI.get rfl) ml_nil))) rfl) g0 fun iv ix aS dy _ a4 iy g1 => ?_)
       obtain ⟨ap, rfl, g2⟩ := g1
       have g3 := gX.kept a4 (.head _)
       have g4 := gY.kept a4 (.tail _ (.head _))
       have iz := au.kept a4 (.tail _ (.tail _ (.head _)))
       have iA := ar.kept a4 (.tail _ (.tail _ (.tail _ (.head _))))
       refine sqv dy rfl (r_assign (dy.get rfl)) fun _ g5 => sq_end ?_
       have dz := g5.kp [(2, .pointer (some (⟨k, 0, none⟩ : Addr))), (3, .pointer (some (⟨j, 0, none⟩ : Addr))), (5, .int .i64 ap), (6, .int .i64 f)] rfl
       refine block_normal ?_
       refine then_normal (wp_region_lit ?_)
       refine sqv dz rfl (r_move (dz.get rfl)) fun _ dA => ?_
       obtain ⟨g6, dB⟩ := g2
       refine sqv dA rfl (r_addI (dA.get rfl) rfl g6) fun _ dC => sqv dC rfl (r_assign (dC.get rfl)) fun _ g7 => sq_end ?_
       have g8 := g7.kp [(2, .pointer (some (⟨k, 0, none⟩ : Addr))), (3, .pointer (some (⟨j, 0, none⟩ : Addr))), (5, .int .i64 ap), (6, .int .i64 (f + 1))] rfl
       have g9 := g8.kp [(2, .pointer (some (⟨k, 0, none⟩ : Addr))), (3, .pointer (some (⟨j, 0, none⟩ : Addr))), (5, .int .i64 ap), (6, .int .i64 (f + 1))] rfl
       exact then_normal ⟨(ap, f + 1, aS), ⟨g9, g3, g4, rfl, dB.1⟩, dB.2⟩
   ·have dD := cz.2 ((b_and_f hc).imp (fun h => ((b_and_f h).imp (fun h => (of_decide_eq_false h)) (fun h => (of_decide_eq_false h)))) (fun h => (of_decide_eq_false h)))
    clear hc
    refine wp_exit ?_
    refine then_exit ?_
    refine then_exit ?_
    refine block_hit ?_
    have dF := r.kp [(2, .pointer (some (⟨k, 0, none⟩ : Addr))), (3, .pointer (some (⟨j, 0, none⟩ : Addr))), (5, .int .i64 l)] rfl
    refine then_normal (wp_seq (wp_seq (wp_region_lit ?_)))
    refine sqv dF rfl (r_move (dF.get rfl)) fun _ dG => sqv dG rfl (r_eql (dG.get rfl) rfl) fun _ ha => sq_end ?_
    have aQ := ha.kp [(2, .pointer (some (⟨k, 0, none⟩ : Addr))), (3, .pointer (some (⟨j, 0, none⟩ : Addr))), (5, .int .i64 l), (114, .bool (decide (l = 0)))] rfl
    refine then_normal ?_
    refine wp_cond_split (aQ.get rfl) (fun hc => ?_) (fun hc => ?_)
    ·have hb := dD.1 (of_decide_eq_true hc)
     clear hc
     refine wp_region_lit ?_
     refine sqv aQ rfl (r_fieldAddr (aQ.get rfl) Tryz.underlying39 rfl ti_36 (by decide)) fun _ dH => sqv dH rfl (r_load1 tU36 rfl (dH.get rfl) (aN.cell 3 _ rfl)) fun _ dI => sqv dI rfl (r_len (dI.get rfl) tU36) fun _ dJ => sqv dJ rfl (r_fieldAddr (dJ.get rfl) Tryz.underlying39 rfl ti_36 (by decide)) fun _ dK => sqv dK rfl (r_load1 tU36 rfl (dK.get rfl) (aO.cell 3 _ rfl)) fun _ dL => sqv dL rfl (r_len (dL.get rfl) tU36) fun _ bJ => sqv bJ rfl (r_lss (bJ.get rfl) (bJ.get rfl)) fun _ dM => sqv dM rfl (r_fieldAddr (dM.get rfl) Tryz.underlying39 rfl ti_36 (by decide)) fun _ dN => ?_
     refine sqv dN rfl (r_load1 tU36 rfl (dN.get rfl) (aN.cell 3 _ rfl)) fun _ dO => sqv dO rfl (r_len (dO.get rfl) tU36) fun _ dP => sqv dP rfl (r_fieldAddr (dP.get rfl) Tryz.underlying39 rfl ti_36 (by decide)) fun _ dQ => sqv dQ rfl (r_load1 tU36 rfl (dQ.get rfl) (aO.cell 3 _ rfl)) fun _ dR => sqv dR rfl (r_len (dR.get rfl) tU36) fun _ bK => sqv bK rfl (r_gtr (bK.get rfl) (bK.get rfl)) fun _ bL => ?_
     refine sq (opk_call bL rfl (r_call (args := #[.bool (decide ((m.n : Int) < (q.n : Int))), .bool (decide ((q.n : Int) < (m.n : Int)))]) Tryz.func68 (by decide) rfl (map_arr (ml_cons (bL.get rfl) (ml_cons (bL.get rfl) ml_nil))) rfl) hb fun iB iC bO dS _ dT iD hf => ?_)
     obtain ⟨aA, rfl, hh⟩ := hf
     have iF := aN.kept dT (.head _)
     have iG := aO.kept dT (.tail _ (.head _))
     refine sqv dS rfl (r_assign (dS.get rfl)) fun _ hi => sq_end ?_
     have dU := hi.kp [(5, .int .i64 aA)] rfl
     refine then_normal (wp_seq (wp_region_lit ?_))
     refine sqv dU rfl (r_move (dU.get rfl)) fun _ dV => sqv dV rfl (r_assign (dV.get rfl)) fun _ hj => sq_end ?_
     have dX := hj.kp [(4, .int .i64 aA)] rfl
     refine then_normal ?_
     refine wp_ret ?_
     exact res_all (vs := [.int .i64 aA]) rfl dX ⟨res_of_tmp dX rfl, trivial⟩ hh
    ·have hk := dD.2 (of_decide_eq_false hc)
     clear hc
     refine wp_skip ?_
     refine then_normal (wp_seq (wp_region_lit ?_))
     refine sqv aQ rfl (r_move (aQ.get rfl)) fun _ dY => sqv dY rfl (r_assign (dY.get rfl)) fun _ hl => sq_end ?_
     have dZ := hl.kp [(4, .int .i64 l)] rfl
     refine then_normal ?_
     refine wp_ret ?_
     exact res_all (vs := [.int .i64 l]) rfl dZ ⟨res_of_tmp dZ rfl, trivial⟩ hk
def ref05_sign.vc (b : Bool) (a : Bool) (R : Value → World → Prop) (w : World) : Prop :=
((b = true) →
R (.int .i64 (-1)) w) ∧
((b = false) →
((a = true) →
R (.int .i64 1) w) ∧
((a = false) →
R (.int .i64 0) w))
theorem ref05_sign.ok (b : Bool) (a : Bool) {R : Value → World → Prop} {w : World} (d : ref05_sign.vc b a R w) : Calls Tryz.prog 68 #[.bool b, .bool a] w (Ret R) := by
 refine enter [.bool b, .bool a] Tryz.func68 rfl Tryz.ntmps68 rfl ?_
 intro y n
 unfold ref05_sign.vc at d
 refine wp_seq (wp_region_lit ?_)
 refine sqv n rfl (r_assign rfl) fun _ o => sq_end ?_
 have g := o.kp [(0, .bool b), (1, .bool a)] rfl
 refine then_normal (wp_seq (wp_block (wp_seq (wp_region_lit ?_))))
 refine sqv g rfl (r_move (g.get rfl)) fun _ h => sqv h rfl (r_assign (h.get rfl)) fun _ p => sq_end ?_
 have c := p.kp [(1, .bool a), (5, .bool b)] rfl
 refine then_normal ?_
 refine wp_cond_split (c.get rfl) (fun hc => ?_) (fun hc => ?_)
 ·have q := d.1 hc
  clear hc
  refine wp_seq (wp_region_lit ?_)
  refine sqv c rfl (r_assign rfl) fun _ r => sq_end ?_
  have i := r.kp [(4, .int .i64 (-1))] rfl
  refine then_normal ?_
  refine wp_ret ?_
  refine block_ret ?_
  refine then_ret ?_
  exact res_all (vs := [.int .i64 (-1)]) rfl i ⟨res_of_tmp i rfl, trivial⟩ q
 ·have j := d.2 hc
  clear hc
  refine wp_seq (wp_region_lit ?_)
  refine sqv c rfl (r_move (c.get rfl)) fun _ k => sqv k rfl (r_assign (k.get rfl)) fun _ s => sq_end ?_
  have f := s.kp [(7, .bool a)] rfl
  refine then_normal ?_
  refine wp_cond_split (f.get rfl) (fun hc => ?_) (fun hc => ?_)
  ·have t := j.1 hc
   clear hc
   refine wp_seq (wp_region_lit ?_)
   refine sqv f rfl (r_assign rfl) fun _ u => sq_end ?_
   have l := u.kp [(4, .int .i64 1)] rfl
   refine then_normal ?_
   refine wp_ret ?_
   refine block_ret ?_
   refine then_ret ?_
   exact res_all (vs := [.int .i64 1]) rfl l ⟨res_of_tmp l rfl, trivial⟩ t
  ·have v := j.2 hc
   clear hc
   refine wp_skip ?_
   refine block_normal ?_
   refine then_normal (wp_seq (wp_region_lit ?_))
   refine sqv f rfl (r_assign rfl) fun _ x => sq_end ?_
   have m := x.kp [(4, .int .i64 0)] rfl
   refine then_normal ?_
   refine wp_ret ?_
   exact res_all (vs := [.int .i64 0]) rfl m ⟨res_of_tmp m rfl, trivial⟩ v
end Go.Proofs.YteacalmdpoblpaaGreat
