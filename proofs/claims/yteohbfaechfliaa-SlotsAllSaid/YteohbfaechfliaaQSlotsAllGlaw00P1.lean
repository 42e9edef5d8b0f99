/-
  PRINTED BY PROGRAM: for each function its condition (vc), and that this suffices (ok).
-/
import Derived.Test.YteohbfaechfliaaQSlotsAllGT
namespace Go.Proofs.Yteohbfaechfliaa
open Go.RowKit
set_option linter.unusedVariables false
set_option maxHeartbeats 1000000
set_option maxRecDepth 10000
def law00_Few.vc (a : Int) (b : Str) (c : Str) (d : Sl) (f : Sl) (R : Value → World → Prop) (w : World) : Prop :=
∀ (i : World) (j : Nat), New w j i → Chg [] w i →
CallK Try.prog 42 #[.agg #[.int .i64 a, .string (Bs b), .string (Bs c), Sl.v d, Sl.v f]] i [j] (fun v k => ∃ (h : Bool), v = .bool h ∧
∃ (l : Int), (((h = true)) → Calls Try.prog 15 #[.agg #[.int .i64 a, .string (Bs b), .string (Bs c), Sl.v d, Sl.v f]] k (Ret fun v w' => Ext k w' ∧ v = .int .i64 l)) ∧
(∀ m : World, Ext k m →
R (.bool (h && (decide (l ≤ 60)))) m))
theorem law00_Few.ok (a : Int) (b : Str) (c : Str) (d : Sl) (f : Sl) {R : Value → World → Prop} {w : World} (p : law00_Few.vc a b c d f R w) : Calls Try.prog 18 #[.agg #[.int .i64 a, .string (Bs b), .string (Bs c), Sl.v d, Sl.v f]] w (Ret R) := by
 refine enter [.agg #[.int .i64 a, .string (Bs b), .string (Bs c), Sl.v d, Sl.v f]] Try.func18 rfl Try.ntmps18 rfl ?_
 intro a0 q
 unfold law00_Few.vc at p
 refine wp_seq (wp_region_lit ?_)
 refine sq (opk_new (fun B => .pointer (some ⟨B, 0, none⟩)) q rfl (r_box (cs := [.int .i64 a, .string (Bs b), .string (Bs c), Sl.v d, Sl.v f]) (q.get rfl) rfl) fun a4 i j af ag r ah _ => ?_)
 have ai : New w j i := ag
 have aj : Chg [] w i := af
 refine sqv ah rfl (r_assign rfl) fun _ ak => sq_end ?_
 have s := ak.kp [(1, pB j 0)] rfl
 refine then_normal (wp_seq (wp_region_lit ?_))
 refine sqv s rfl (r_loadN (cs := [.int .i64 a, .string (Bs b), .string (Bs c), Sl.v d, Sl.v f]) Try.underlying26 rfl ti_26 (s.get rfl) (r.part 0 _ rfl)) fun _ t => ?_
 have al := p i j ai  aj
 refine sq (opk_call t rfl (r_call (args := #[.agg #[.int .i64 a, .string (Bs b), .string (Bs c), Sl.v d, Sl.v f]]) Try.func42 (by decide) rfl (map_arr (ml_cons (t.get rfl) ml_nil)) rfl) al fun ay az k u _ am aA an => ?_)
 obtain ⟨h, rfl, ao⟩ := an
 have x := r.kept am (.head _)
 refine sqv u rfl (r_move (u.get rfl)) fun _ y => ?_
 refine sq (opk_gval y rfl rfl (g := true) (e := h) rfl (fun hg => r_loadN (cs := [.int .i64 a, .string (Bs b), .string (Bs c), Sl.v d, Sl.v f]) Try.underlying26 rfl ti_26 (y.get rfl) (x.part 0 _ rfl)) fun aB z _ => ?_)
 obtain ⟨l, ap, aq⟩ := ao
 refine sq (opk_gcall z rfl rfl (g := true) (e := h) rfl (fun hg => r_call (args := #[.agg #[.int .i64 a, .string (Bs b), .string (Bs c), Sl.v d, Sl.v f]]) Try.func15 (by decide) rfl (map_arr (ml_cons (cv_get (z.get rfl) hg) ml_nil)) rfl) (fun hg => ap (g_t hg)) fun aC m aa _ n => ?_)
 have aD := x.ext n
 have aF : Chg [] k m := n
 have ar := aq m n
 refine sq (opk_gval aa rfl rfl (g := true) (e := h) rfl (fun hg => r_leq (cv_get (aa.get rfl) hg) rfl) fun aG o _ => ?_)
 refine sqv o rfl (r_pick_and (g := (true && (h == true))) (o.get rfl) (o.get rfl) (fun he => g_mkt rfl he)) fun _ ab => sqv ab rfl (r_assign (ab.get rfl)) fun _ au => sq_end ?_
 have ad := au.kp [(2, .bool (h && (decide (l ≤ 60))))] rfl
 refine then_normal ?_
 refine wp_ret ?_
 exact res_all (vs := [.bool (h && (decide (l ≤ 60)))]) rfl ad ⟨res_of_tmp ad rfl, trivial⟩ ar
def law00_Tree.vc (p : Int) (q : Str) (r : Str) (ab : Sl) (x : Sl) (R : Value → World → Prop) (w : World) : Prop :=
∀ (ad : World) (c : Nat) (m : Nat), New w c ad → New w m ad → c ≠ m → Chg [] w ad →
∃ al : Sl → World → Prop, (∀ d : Sl, ∀ w' w'' : World, Ext w' w'' → al d w' → al d w'') ∧
(∀ w' : World, Ext ad w' → Calls Try.prog 43 #[Sl.v ab] w' (Ret fun v w'' => Ext w' w'' ∧ ∃ d : Sl, v = Sl.v d ∧ al d w'')) ∧
∀ (ah : World) (d : Sl) (b : Nat), Ext ad ah → al d ah → ad.heap.size ≤ b → Box ah b 26 [.int .i64 0, .string (Bs []), .string (Bs []), Sl.v Sl.nil, Sl.v Sl.nil] → 
∀ (am : World), Chg [b] ah am →
∃ (az : Int → Sl → World → Prop) (aD : Int → Sl → World → Nat),
az 0 Sl.nil am ∧
(∀ (o : Int) (y : Sl) (ai : World), az o y ai →
((o < (x.n : Int)) →
∀ (af : World), Chg [] ai af →
∃ aA : Addr, (((0 : Int) ≤ o ∧ o < (x.n : Int)) ∧ x.a = some aA) ∧
∃ (ap : Int) (aq : Str) (ar : Str) (au : Sl) (av : Sl), (Cells af (aA.add (o.toNat * 5)) [.int .i64 ap, .string (Bs aq), .string (Bs ar), Sl.v au, Sl.v av]) ∧
∃ an : Int → Str → Str → Sl → Sl → World → Prop, (∀ f : Int, ∀ g : Str, ∀ j : Str, ∀ k : Sl, ∀ l : Sl, ∀ w' w'' : World, Ext w' w'' → an f g j k l w' → an f g j k l w'') ∧
(∀ w' : World, Ext af w' → Calls Try.prog 19 #[.agg #[.int .i64 ap, .string (Bs aq), .string (Bs ar), Sl.v au, Sl.v av]] w' (Ret fun v w'' => Ext w' w'' ∧ ∃ f : Int, ∃ g : Str, ∃ j : Str, ∃ k : Sl, ∃ l : Sl, v = .agg #[.int .i64 f, .string (Bs g), .string (Bs j), Sl.v k, Sl.v l] ∧ an f g j k l w'')) ∧
∀ (aj : World) (f : Int) (g : Str) (j : Str) (k : Sl) (l : Sl) (u : Nat), Ext af aj → an f g j k l aj → af.heap.size ≤ u → Box aj u 26 [.int .i64 f, .string (Bs g), .string (Bs j), Sl.v k, Sl.v l] → 
∀ (_ : Box aj u 26 [.int .i64 f, .string (Bs g), .string (Bs j), Sl.v k, Sl.v l]),
RunK Try.prog (Builtin.append_ #[24, 24] 24 #[Sl.v y, Sl.v (Sl.mk (some ⟨u, 0, none⟩) 1 1)]) aj [c, m, b] (fun v aJ => ∃ (ak : Sl), v = Sl.v ak ∧
(I64 (o + 1)) ∧
∀ (ao : World), Chg [b] aJ ao →
az (o + 1) ak ao ∧ aD (o + 1) ak ao < aD o y ai)) ∧
((¬ (o < (x.n : Int))) →
∀ (ax : World), Chg [m] ai ax →
R (.agg #[.int .i64 p, .string (Bs q), .string (Bs r), Sl.v d, Sl.v y]) ax))
theorem law00_Tree.ok (p : Int) (q : Str) (r : Str) (ab : Sl) (x : Sl) {R : Value → World → Prop} {w : World} (a2 : law00_Tree.vc p q r ab x R w) : Calls Try.prog 19 #[.agg #[.int .i64 p, .string (Bs q), .string (Bs r), Sl.v ab, Sl.v x]] w (Ret R) := by
 refine enter [.agg #[.int .i64 p, .string (Bs q), .string (Bs r), Sl.v ab, Sl.v x]] Try.func19 rfl Try.ntmps19 rfl ?_
 intro a0 a3
 unfold law00_Tree.vc at a2
 refine wp_seq (wp_region_lit ?_)
 refine sq (opk_new (fun B => .pointer (some ⟨B, 0, none⟩)) a3 rfl (r_box (cs := [.int .i64 p, .string (Bs q), .string (Bs r), Sl.v ab, Sl.v x]) (a3.get rfl) rfl) fun a4 w3 c bA bB a5 bC _ => ?_)
 have bD : New w c w3 := bB
 have a6 : Chg [] w w3 := bA
 refine sq (opk_new (fun B => .pointer (some ⟨B, 0, none⟩)) bC rfl (r_alloc (cs := [.int .i64 0, .string (Bs []), .string (Bs []), Sl.v Sl.nil, Sl.v Sl.nil]) ti_26 rfl) fun dn dp m aK a7 bF bG _ => ?_)
 have bH : c ≠ m := Nat.ne_of_lt (Nat.lt_of_lt_of_le a5.lt a7.ge)
 have bI := New.of a6 a7
 have bJ := a5.ext aK
 have bK := a6.more aK
 have bL := bD.up aK.size
 refine sq_end ?_
 have z := bG.kp [(1, pB c 0), (2, pB m 0)] rfl
 refine then_normal (wp_seq ?_)
 refine draw' (by kernel_rfl) fun ad aB => ?_
 have ay := bJ.ext aB
 have a8 := bF.ext aB
 have bM := bK.more aB
 have bN := bL.up aB.size
 have bO := bI.up aB.size
 have bP := a2 ad c m bN bO bH bM
 obtain ⟨al, a9, bQ, bR⟩ := bP
 refine par (D := [[], [0], [], [2], [], [4], [], [6], [6, 7], [0, 1, 2, 3, 4, 5, 6, 7, 8], [], [0, 1, 2, 3, 4, 5, 6, 7, 8, 9, 10]]) (S := [0, 1, 2, 3, 4, 5, 6, 7, 8, 9, 10]) (F := []) (V := VL [(0, fun v _ => v = pB c 0), (1, fun v _ => v = .int .i64 p), (2, fun v _ => v = pB c 1), (3, fun v _ => v = .string (Bs q)), (4, fun v _ => v = pB c 2), (5, fun v _ => v = .string (Bs r)), (6, fun v _ => v = pB c 3), (7, fun v _ => v = Sl.v ab), (8, fun v w' => ∃ d : Sl, al d w' ∧ v = Sl.v d), (9, fun v w' => ∃ d : Sl, al d w' ∧ v = .agg #[.int .i64 p, .string (Bs q), .string (Bs r), Sl.v d, Sl.v Sl.nil]), (10, fun v w' => ∃ b : Nat, ad.heap.size ≤ b ∧ Box w' b 26 [.int .i64 0, .string (Bs []), .string (Bs []), Sl.v Sl.nil, Sl.v Sl.nil] ∧ v = pB b 0)]) z (by kernel_rfl) ⟨fun _ _ _ _ h => h, fun _ _ _ _ h => h, fun _ _ _ _ h => h, fun _ _ _ _ h => h, fun _ _ _ _ h => h, fun _ _ _ _ h => h, fun _ _ _ _ h => h, fun _ _ _ _ h => h, fun _ _ _ hE ⟨d, h0_, e⟩ => ⟨d, (a9 d _ _ hE h0_), e⟩, fun _ _ _ hE ⟨d, h0_, e⟩ => ⟨d, (a9 d _ _ hE h0_), e⟩, fun _ _ _ hE ⟨b, h0_, h1_, e⟩ => ⟨b, h0_, (h1_.ext hE), e⟩, trivial⟩ ⟨?_, ?_, ?_, ?_, ?_, ?_, ?_, ?_, ?_, ?_, ?_, trivial⟩ ?_
 ·intro a w hT
  have hAp := hT.ag z [(1, pB c 0)] ⟨rfl, trivial⟩ (by kernel_rfl)
  exact ovr hAp rfl (r_fieldAddr (hAp.get rfl) Try.underlying26 rfl ti_3 (by decide)) fun _ => Eq.refl _
 ·intro a w hT
  have hAp := hT.ag z [] trivial (by kernel_rfl)
  have hAp := hAp.add (t := 5) (v := pB c 0) (hT.vals 0 rfl 5 rfl)
  exact ovr hAp rfl (r_load1 tU3 rfl (hAp.get rfl) ((ay.ext hT.chg).cell 0 _ rfl)) fun _ => Eq.refl _
 ·intro a w hT
  have hAp := hT.ag z [(1, pB c 0)] ⟨rfl, trivial⟩ (by kernel_rfl)
  exact ovr hAp rfl (r_fieldAddr (hAp.get rfl) Try.underlying26 rfl ti_9 (by decide)) fun _ => Eq.refl _
 ·intro a w hT
  have hAp := hT.ag z [] trivial (by kernel_rfl)
  have hAp := hAp.add (t := 7) (v := pB c 1) (hT.vals 2 rfl 7 rfl)
  exact ovr hAp rfl (r_load1 tU9 rfl (hAp.get rfl) ((ay.ext hT.chg).cell 1 _ rfl)) fun _ => Eq.refl _
 ·intro a w hT
  have hAp := hT.ag z [(1, pB c 0)] ⟨rfl, trivial⟩ (by kernel_rfl)
  exact ovr hAp rfl (r_fieldAddr (hAp.get rfl) Try.underlying26 rfl ti_9 (by decide)) fun _ => Eq.refl _
 ·intro a w hT
  have hAp := hT.ag z [] trivial (by kernel_rfl)
  have hAp := hAp.add (t := 9) (v := pB c 2) (hT.vals 4 rfl 9 rfl)
  exact ovr hAp rfl (r_load1 tU9 rfl (hAp.get rfl) ((ay.ext hT.chg).cell 2 _ rfl)) fun _ => Eq.refl _
 ·intro a w hT
  have hAp := hT.ag z [(1, pB c 0)] ⟨rfl, trivial⟩ (by kernel_rfl)
  exact ovr hAp rfl (r_fieldAddr (hAp.get rfl) Try.underlying26 rfl ti_23 (by decide)) fun _ => Eq.refl _
 ·intro a w hT
  have hAp := hT.ag z [] trivial (by kernel_rfl)
  have hAp := hAp.add (t := 11) (v := pB c 3) (hT.vals 6 rfl 11 rfl)
  exact ovr hAp rfl (r_load1 tU23 rfl (hAp.get rfl) ((ay.ext hT.chg).cell 3 _ rfl)) fun _ => Eq.refl _
 ·intro a w hT
  have hAp := hT.ag z [] trivial (by kernel_rfl)
  have hAp := hAp.add (t := 12) (v := Sl.v ab) (hT.vals 7 rfl 12 rfl)
  exact opk_callX hAp rfl (r_call (args := #[Sl.v ab]) Try.func43 (by decide) rfl (map_arr (ml_cons (hAp.get rfl) ml_nil)) rfl) (bQ w hT.chg) fun _ _ _ _ e ⟨hE, d, he, hV⟩ => ⟨_, e, hE, fun _ => ⟨d, hV, he⟩⟩
 ·intro a w hT
  have hAp := hT.ag z [] trivial (by kernel_rfl)
  have hAp := hAp.add (t := 6) (v := .int .i64 p) (hT.vals 1 rfl 6 rfl)
  have hAp := hAp.add (t := 8) (v := .string (Bs q)) (hT.vals 3 rfl 8 rfl)
  have hAp := hAp.add (t := 10) (v := .string (Bs r)) (hT.vals 5 rfl 10 rfl)
  obtain ⟨d, bS, bT⟩ := hT.vals 8 rfl 13 rfl
  have hAp := hAp.add bT
  exact opk_val hAp rfl (r_build (vs := #[(0, .int .i64 p), (1, .string (Bs q)), (2, .string (Bs r)), (3, Sl.v d)]) (cells := #[.int .i64 p, .string (Bs q), .string (Bs r), Sl.v d, Sl.v Sl.nil]) (map_arr2 (ml2_cons (hAp.get rfl) (ml2_cons (hAp.get rfl) (ml2_cons (hAp.get rfl) (ml2_cons (hAp.get rfl) (ml2_nil)))))) ti_26 Try.underlying26 pl_26 (by kernel_rfl)) fun _ _ e => ⟨_, e, Chg.refl _ _, fun _ => ⟨d, bS, rfl⟩⟩
 ·intro a w hT
  have hAp := hT.ag z [] trivial (by kernel_rfl)
  exact opk_new (fun B => .pointer (some ⟨B, 0, none⟩)) hAp rfl (r_alloc (cs := [.int .i64 0, .string (Bs []), .string (Bs []), Sl.v Sl.nil, Sl.v Sl.nil]) ti_26 rfl) fun _ dq b bU bV bX _ e => ⟨_, e, bU, fun _ => ⟨b, Nat.le_trans hT.chg.size bV.ge, bX, rfl⟩⟩
 ·intro dr ah aF bY ba
  have bZ := bY [(1, pB c 0), (2, pB m 0)] ⟨rfl, rfl, trivial⟩ (by kernel_rfl)
  obtain ⟨d, b0, b1⟩ := ba 9 rfl 14 rfl
  have b2 := bZ.add b1
  obtain ⟨b, aL, aM, b3⟩ := ba 10 rfl 3 rfl
  have aN := b2.add b3
  have b4 := ay.ext aF
  have b5 := a8.ext aF
  have ds : Chg [] ad ah := aF
  have b6 := bR ah d b aF b0 aL aM
  have bb : c ≠ b := Nat.ne_of_lt (Nat.lt_of_lt_of_le ay.lt aL)
  have aO : m ≠ b := Nat.ne_of_lt (Nat.lt_of_lt_of_le a8.lt aL)
  refine one (D := [[], [0], [], [2], [], [4], [], [6], [6, 7], [0, 1, 2, 3, 4, 5, 6, 7, 8], [], [0, 1, 2, 3, 4, 5, 6, 7, 8, 9, 10]]) (i := 11) rfl (by kernel_rfl) (opk_store aN aM (r_store (vs := [.int .i64 p, .string (Bs q), .string (Bs r), Sl.v d, Sl.v Sl.nil]) (aN.get rfl) (aN.get rfl) rfl ti_26 aM rfl (ones_all _ rfl)) fun dt am aP b7 b8 => ?_)
  have b9 : Box am b 26 [.int .i64 p, .string (Bs q), .string (Bs r), Sl.v d, Sl.v Sl.nil] := b7
  have ca := b4.keep aP (by simpa using bb)
  have cb := b5.keep aP (by simpa using aO)
  have cc : Chg [b] ah am := aP
  refine PR_end (by kernel_rfl) ?_
  have cd := b8.kp [(1, pB c 0), (2, pB m 0), (3, pB b 0)] rfl
  refine then_normal (wp_seq (wp_seq (wp_region_lit ?_)))
  refine sqv cd rfl (r_assign rfl) fun _ cf => sq_end ?_
  have cg := cf.kp [(1, pB c 0), (2, pB m 0), (3, pB b 0), (4, .int .i64 0)] rfl
  refine then_normal (wp_block ?_)
  have ch := b6 am    cc
  obtain ⟨az, aD, ci, cj⟩ := ch
  refine wp_loop_st (σ := Int × Sl × World) (fun s a w => Ag 34 a [(1, pB c 0), (2, pB m 0), (3, pB b 0), (4, .int .i64 s.1)] ∧ Box w c 26 [.int .i64 p, .string (Bs q), .string (Bs r), Sl.v ab, Sl.v x] ∧ Box w m 26 [.int .i64 0, .string (Bs []), .string (Bs []), Sl.v Sl.nil, Sl.v Sl.nil] ∧ Box w b 26 [.int .i64 p, .string (Bs q), .string (Bs r), Sl.v d, Sl.v s.2.1] ∧ w = s.2.2 ∧ az s.1 s.2.1 s.2.2) (fun s => aD s.1 s.2.1 s.2.2) (0, Sl.nil, am) ⟨cg.kp [(1, pB c 0), (2, pB m 0), (3, pB b 0), (4, .int .i64 0)] rfl, ca, cb, b9, rfl, ci⟩ ?_
  rintro ⟨o, y, ai⟩ du w_ ⟨bd, bf, aQ, aR, hw_, ck⟩
  have hw_ : ai = w_ := hw_.symm
  subst hw_
  have bg := cj o y _ ck
  refine wp_seq (wp_seq (wp_region_lit ?_))
  refine sqv bd rfl (r_move (bd.get rfl)) fun _ bh => sqv bh rfl (r_fieldAddr (bh.get rfl) Try.underlying26 rfl ti_24 (by decide)) fun _ bi => sqv bi rfl (r_load1 tU24 rfl (bi.get rfl) (bf.cell 4 _ rfl)) fun _ bj => sqv bj rfl (r_len (bj.get rfl) tU24) fun _ aS => sqv aS rfl (r_lss (aS.get rfl) (aS.get rfl)) fun _ cl => sq_end ?_
  have aa := cl.kp [(1, pB c 0), (2, pB m 0), (3, pB b 0), (4, .int .i64 o), (19, .bool (decide (o < (x.n : Int))))] rfl
  refine then_normal ?_
  refine wp_cond_split (aa.get rfl) (fun hc => ?_) (fun hc => ?_)
  ·have cm := bg.1 (of_decide_eq_true hc)
   clear hc
   refine wp_skip ?_
   refine then_normal (wp_seq (wp_block ?_))
   refine draw' (by kernel_rfl) fun af aG => ?_
   have aT := bf.ext aG
   have bk := aQ.ext aG
   have aU := aR.ext aG
   have cn : Chg [] ai af := aG
   have co := cm af    cn
   obtain ⟨aA, bl, cp⟩ := co
   obtain ⟨ap, aq, ar, au, av, cq, cr⟩ := cp
   obtain ⟨an, aV, ct, cu⟩ := cr
   refine par (D := [[], [0], [], [2], [], [2, 3, 4], [2, 3, 4, 5], [2, 3, 4, 5, 6], [2, 3, 4, 5, 6, 7], [0, 1, 2, 3, 4, 5, 6, 7, 8], [0, 1, 2, 3, 4, 5, 6, 7, 8, 9], [0, 1, 2, 3, 4, 5, 6, 7, 8, 9, 10]]) (S := [0, 1, 2, 3, 4, 5, 6, 7, 8]) (F := []) (V := VL [(0, fun v _ => v = pB b 4), (1, fun v _ => v = Sl.v y), (2, fun v _ => v = pB c 4), (3, fun v _ => v = Sl.v x), (4, fun v _ => v = .int .i64 o), (5, fun v _ => v = .pointer (some (aA.add (o.toNat * 5)))), (6, fun v _ => v = .agg #[.int .i64 ap, .string (Bs aq), .string (Bs ar), Sl.v au, Sl.v av]), (7, fun v w' => ∃ f : Int, ∃ g : Str, ∃ j : Str, ∃ k : Sl, ∃ l : Sl, an f g j k l w' ∧ v = .agg #[.int .i64 f, .string (Bs g), .string (Bs j), Sl.v k, Sl.v l]), (8, fun v w' => ∃ f : Int, ∃ g : Str, ∃ j : Str, ∃ k : Sl, ∃ l : Sl, ∃ u : Nat, an f g j k l w' ∧ af.heap.size ≤ u ∧ Box w' u 26 [.int .i64 f, .string (Bs g), .string (Bs j), Sl.v k, Sl.v l] ∧ v = Sl.v (Sl.mk (some ⟨u, 0, none⟩) 1 1))]) aa (by kernel_rfl) ⟨fun _ _ _ _ h => h, fun _ _ _ _ h => h, fun _ _ _ _ h => h, fun _ _ _ _ h => h, fun _ _ _ _ h => h, fun _ _ _ _ h => h, fun _ _ _ _ h => h, fun _ _ _ hE ⟨f, g, j, k, l, h0_, e⟩ => ⟨f, g, j, k, l, (aV f g j k l _ _ hE h0_), e⟩, fun _ _ _ hE ⟨f, g, j, k, l, u, h0_, h1_, h2_, e⟩ => ⟨f, g, j, k, l, u, (aV f g j k l _ _ hE h0_), h1_, (h2_.ext hE), e⟩, trivial⟩ ⟨?_, ?_, ?_, ?_, ?_, ?_, ?_, ?_, ?_, trivial⟩ ?_
   ·intro a w hT
    have hAp := hT.ag aa [(3, pB b 0)] ⟨rfl, trivial⟩ (by kernel_rfl)
    exact ovr hAp rfl (r_fieldAddr (hAp.get rfl) Try.underlying26 rfl ti_24 (by decide)) fun _ => Eq.refl _
   ·intro a w hT
    have hAp := hT.ag aa [] trivial (by kernel_rfl)
    have hAp := hAp.add (t := 22) (v := pB b 4) (hT.vals 0 rfl 22 rfl)
    exact ovr hAp rfl (r_load1 tU24 rfl (hAp.get rfl) ((aU.ext hT.chg).cell 4 _ rfl)) fun _ => Eq.refl _
   ·intro a w hT
    have hAp := hT.ag aa [(1, pB c 0)] ⟨rfl, trivial⟩ (by kernel_rfl)
    exact ovr hAp rfl (r_fieldAddr (hAp.get rfl) Try.underlying26 rfl ti_24 (by decide)) fun _ => Eq.refl _
   ·intro a w hT
    have hAp := hT.ag aa [] trivial (by kernel_rfl)
    have hAp := hAp.add (t := 24) (v := pB c 4) (hT.vals 2 rfl 24 rfl)
    exact ovr hAp rfl (r_load1 tU24 rfl (hAp.get rfl) ((aT.ext hT.chg).cell 4 _ rfl)) fun _ => Eq.refl _
   ·intro a w hT
    have hAp := hT.ag aa [(4, .int .i64 o)] ⟨rfl, trivial⟩ (by kernel_rfl)
    exact ovr hAp rfl (r_move (hAp.get rfl)) fun _ => Eq.refl _
   ·intro a w hT
    have hAp := hT.ag aa [] trivial (by kernel_rfl)
    have hAp := hAp.add (t := 25) (v := Sl.v x) (hT.vals 3 rfl 25 rfl)
    have hAp := hAp.add (t := 26) (v := .int .i64 o) (hT.vals 4 rfl 26 rfl)
    exact ovr hAp rfl (r_indexAddr (hAp.get rfl) (hAp.get rfl) tU24 ti_26 bl.1 bl.2) fun _ => Eq.refl _
   ·intro a w hT
    have hAp := hT.ag aa [] trivial (by kernel_rfl)
    have hAp := hAp.add (t := 27) (v := .pointer (some (aA.add (o.toNat * 5)))) (hT.vals 5 rfl 27 rfl)
    exact ovr hAp rfl (r_loadN Try.underlying26 rfl ti_26 (hAp.get rfl) (cq.ext hT.chg)) fun _ => Eq.refl _
   ·intro a w hT
    have hAp := hT.ag aa [] trivial (by kernel_rfl)
    have hAp := hAp.add (t := 28) (v := .agg #[.int .i64 ap, .string (Bs aq), .string (Bs ar), Sl.v au, Sl.v av]) (hT.vals 6 rfl 28 rfl)
    exact opk_callX hAp rfl (r_call (args := #[.agg #[.int .i64 ap, .string (Bs aq), .string (Bs ar), Sl.v au, Sl.v av]]) Try.func19 (by decide) rfl (map_arr (ml_cons (hAp.get rfl) ml_nil)) rfl) (ct w hT.chg) fun _ _ _ _ e ⟨hE, f, g, j, k, l, he, hV⟩ => ⟨_, e, hE, fun _ => ⟨f, g, j, k, l, hV, he⟩⟩
   ·intro a w hT
    have hAp := hT.ag aa [] trivial (by kernel_rfl)
    obtain ⟨f, g, j, k, l, cv, cx⟩ := hT.vals 7 rfl 29 rfl
    have hAp := hAp.add cx
    exact opk_new (fun B => .slice (some ⟨B, 0, none⟩) 1 1) hAp rfl (r_buildSlice (vs := #[(0, .agg #[.int .i64 f, .string (Bs g), .string (Bs j), Sl.v k, Sl.v l])]) (cs := [.int .i64 f, .string (Bs g), .string (Bs j), Sl.v k, Sl.v l]) (map_arr2 (ml2_cons (hAp.get rfl) (ml2_nil))) tU24 ti_26 rfl rfl (by kernel_rfl)) fun _ dv u bm cy cz _ e => ⟨_, e, bm, fun _ => ⟨f, g, j, k, l, u, (aV f g j k l _ _ bm cv), Nat.le_trans hT.chg.size cy.ge, cz, rfl⟩⟩
   ·intro cA aj aC cB bn
    have cC := cB [(1, pB c 0), (2, pB m 0), (3, pB b 0), (4, .int .i64 o)] ⟨rfl, rfl, rfl, rfl, trivial⟩ (by kernel_rfl)
    have cD : cA.tmps.getD 23 undef = Sl.v y := bn 1 rfl 23 rfl
    have cF := cC.add cD
    obtain ⟨f, g, j, k, l, u, cG, aH, bo, cH⟩ := bn 8 rfl 30 rfl
    have aX := cF.add cH
    have cI := aT.ext aC
    have cJ := bk.ext aC
    have cK := aU.ext aC
    have dx : Chg [] af aj := aC
    have cL := cu aj f g j k l u aC cG aH bo
    have dy : c ≠ u := Nat.ne_of_lt (Nat.lt_of_lt_of_le aT.lt aH)
    have dz : m ≠ u := Nat.ne_of_lt (Nat.lt_of_lt_of_le bk.lt aH)
    have dA : b ≠ u := Nat.ne_of_lt (Nat.lt_of_lt_of_le aU.lt aH)
    have cM := cL bo
    refine one (D := [[], [0], [], [2], [], [2, 3, 4], [2, 3, 4, 5], [2, 3, 4, 5, 6], [2, 3, 4, 5, 6, 7], [0, 1, 2, 3, 4, 5, 6, 7, 8], [0, 1, 2, 3, 4, 5, 6, 7, 8, 9], [0, 1, 2, 3, 4, 5, 6, 7, 8, 9, 10]]) (i := 9) rfl (by kernel_rfl) (opk_run aX rfl (fun _ _ hr => r_append (aX.get rfl) (aX.get rfl) hr) cM fun dB dC aJ bp _ aY dD cN => ?_)
    obtain ⟨ak, rfl, cO⟩ := cN
    have cP := cI.kept aY (.head _)
    have cQ := cJ.kept aY (.tail _ (.head _))
    have cR := cK.kept aY (.tail _ (.tail _ (.head _)))
    refine par (D := [[], [0], [], [2], [], [2, 3, 4], [2, 3, 4, 5], [2, 3, 4, 5, 6], [2, 3, 4, 5, 6, 7], [0, 1, 2, 3, 4, 5, 6, 7, 8], [0, 1, 2, 3, 4, 5, 6, 7, 8, 9], [0, 1, 2, 3, 4, 5, 6, 7, 8, 9, 10]]) (S := [10]) (F := []) (V := VL [(10, fun v _ => v = pB b 4)]) bp (by kernel_rfl) ⟨fun _ _ _ _ h => h, trivial⟩ ⟨?_, trivial⟩ ?_
    ·intro a w hT
     have hAp := hT.ag bp [(3, pB b 0)] ⟨rfl, trivial⟩ (by kernel_rfl)
     exact ovr hAp rfl (r_fieldAddr (hAp.get rfl) Try.underlying26 rfl ti_24 (by decide)) fun _ => Eq.refl _
    ·intro cS cT aI cU cX
     have cY := cU [(1, pB c 0), (2, pB m 0), (3, pB b 0), (4, .int .i64 o), (31, Sl.v ak)] ⟨rfl, rfl, rfl, rfl, rfl, trivial⟩ (by kernel_rfl)
     have cZ : cS.tmps.getD 32 undef = pB b 4 := cX 10 rfl 32 rfl
     have aZ := cY.add cZ
     have c0 := cP.ext aI
     have c1 := cQ.ext aI
     have bq := cR.ext aI
     have c2 : Chg [] aJ cT := aI
     refine one (D := [[], [0], [], [2], [], [2, 3, 4], [2, 3, 4, 5], [2, 3, 4, 5, 6], [2, 3, 4, 5, 6, 7], [0, 1, 2, 3, 4, 5, 6, 7, 8], [0, 1, 2, 3, 4, 5, 6, 7, 8, 9], [0, 1, 2, 3, 4, 5, 6, 7, 8, 9, 10]]) (i := 11) rfl (by kernel_rfl) (opk_store aZ bq (r_store (vs := [Sl.v ak]) (aZ.get rfl) (aZ.get rfl) rfl ti_24 bq rfl (ones_all _ rfl)) fun dF ao hS390 c3 c4 => ?_)
     have c5 : Box ao b 26 [.int .i64 p, .string (Bs q), .string (Bs r), Sl.v d, Sl.v ak] := c3
     have c6 := c0.keep hS390 (by simpa using bb)
     have c7 := c1.keep hS390 (by simpa using aO)
     have c8 := c2.storeOld hS390
     refine PR_end (by kernel_rfl) ?_
     have br := c4.kp [(1, pB c 0), (2, pB m 0), (3, pB b 0), (4, .int .i64 o)] rfl
     refine block_normal ?_
     refine then_normal (wp_region_lit ?_)
     refine sqv br rfl (r_move (br.get rfl)) fun _ bs => ?_
     obtain ⟨c9, da⟩ := cO
     refine sqv bs rfl (r_addI (bs.get rfl) rfl c9) fun _ bt => sqv bt rfl (r_assign (bt.get rfl)) fun _ db => sq_end ?_
     have dc := db.kp [(1, pB c 0), (2, pB m 0), (3, pB b 0), (4, .int .i64 (o + 1))] rfl
     have bu := da ao    c8
     have dd := dc.kp [(1, pB c 0), (2, pB m 0), (3, pB b 0), (4, .int .i64 (o + 1))] rfl
     exact then_normal ⟨(o + 1, ak, ao), ⟨dd, c6, c7, c5, rfl, bu.1⟩, bu.2⟩
  ·have df := bg.2 (of_decide_eq_false hc)
   clear hc
   refine wp_exit ?_
   refine then_exit ?_
   refine then_exit ?_
   refine block_hit ?_
   have bv := aa.kp [(2, pB m 0), (3, pB b 0)] rfl
   refine then_normal (wp_seq (wp_region_lit ?_))
   refine sqv bv rfl (r_loadN (cs := [.int .i64 p, .string (Bs q), .string (Bs r), Sl.v d, Sl.v y]) Try.underlying26 rfl ti_26 (bv.get rfl) (aR.part 0 _ rfl)) fun _ a1 => ?_
   refine sq (opk_store a1 aQ (r_store (vs := [.int .i64 p, .string (Bs q), .string (Bs r), Sl.v d, Sl.v y]) (a1.get rfl) (a1.get rfl) rfl ti_26 aQ rfl (ones_all _ rfl)) fun dG ax bx dg dh => ?_)
   have di : Box ax m 26 [.int .i64 p, .string (Bs q), .string (Bs r), Sl.v d, Sl.v y] := dg
   have dH := aR.keep bx (by simpa using aO.symm)
   have dj : Chg [m] ai ax := bx
   refine sq_end ?_
   have bz := dh.kp [(2, pB m 0)] rfl
   refine then_normal ?_
   refine wp_ret ?_
   have dk := df ax    dj
   exact res_all (vs := [.agg #[.int .i64 p, .string (Bs q), .string (Bs r), Sl.v d, Sl.v y]]) rfl bz ⟨res_of_cell bz rfl di Try.underlying26 rfl ti_26, trivial⟩ dk
def law00_Pairs.vc (a : Sl) (R : Value → World → Prop) (w : World) : Prop :=
RunK Try.prog (Builtin.append_ #[29, 29] 29 #[Sl.v Sl.nil, Sl.v a]) w [] (fun v c => ∃ (b : Sl), v = Sl.v b ∧
R (Sl.v b) c)
theorem law00_Pairs.ok (a : Sl) {R : Value → World → Prop} {w : World} (d : law00_Pairs.vc a R w) : Calls Try.prog 20 #[Sl.v a] w (Ret R) := by
 refine enter [Sl.v a] Try.func20 rfl Try.ntmps20 rfl ?_
 intro o j
 unfold law00_Pairs.vc at d
 refine wp_seq (wp_region_lit ?_)
 refine sqv j rfl (r_assign rfl) fun _ k => sq_end ?_
 have f := k.kp [(0, Sl.v a)] rfl
 refine then_normal (wp_seq (wp_region_lit ?_))
 refine sqv f rfl (r_move (f.get rfl)) fun _ g => ?_
 refine sq (opk_run g rfl (fun _ _ hr => r_append rfl (g.get rfl) hr) d fun p q c h _ r s l => ?_)
 obtain ⟨b, rfl, m⟩ := l
 refine sqv h rfl (r_assign (h.get rfl)) fun _ n => sq_end ?_
 have i := n.kp [(2, Sl.v b)] rfl
 refine then_normal ?_
 refine wp_ret ?_
 exact res_all (vs := [Sl.v b]) rfl i ⟨res_of_tmp i rfl, trivial⟩ m
def law00_SameInts.vc (c : Sl) (d : Sl) (R : Value → World → Prop) (w : World) : Prop :=
(((c.n : Int) ≠ (d.n : Int)) →
R (.bool false) w) ∧
((¬ ((c.n : Int) ≠ (d.n : Int))) →
∃ (m : Int → World → Prop) (q : Int → World → Nat),
m 0 w ∧
(∀ (b : Int) (l : World), m b l →
((b < (c.n : Int)) →
∀ (i : World), Chg [] l i →
∃ o : Addr, (((0 : Int) ≤ b ∧ b < (c.n : Int)) ∧ c.a = some o) ∧
∃ (j : Int), (i.cell? (o.add (b.toNat * 1)) = some (.int .i64 j)) ∧
∃ p : Addr, (((0 : Int) ≤ b ∧ b < (d.n : Int)) ∧ d.a = some p) ∧
∃ (k : Int), (i.cell? (p.add (b.toNat * 1)) = some (.int .i64 k)) ∧
((j ≠ k) →
∀ (g : World), Chg [] i g →
R (.bool false) g) ∧
((¬ (j ≠ k)) →
(I64 (b + 1)) ∧
∀ (g : World), Chg [] i g →
m (b + 1) g ∧ q (b + 1) g < q b l)) ∧
((¬ (b < (c.n : Int))) →
R (.bool true) l)))
theorem law00_SameInts.ok (c : Sl) (d : Sl) {R : Value → World → Prop} {w : World} (u : law00_SameInts.vc c d R w) : Calls Try.prog 23 #[Sl.v c, Sl.v d] w (Ret R) := by
 refine enter [Sl.v c, Sl.v d] Try.func23 rfl Try.ntmps23 rfl ?_
 intro a0 ay
 unfold law00_SameInts.vc at u
 refine wp_seq (wp_region_lit ?_)
 refine sqv ay rfl (r_assign rfl) fun _ az => sq_end ?_
 have aa := az.kp [(0, Sl.v c), (1, Sl.v d)] rfl
 refine then_normal (wp_seq (wp_seq (wp_region_lit ?_)))
 refine sqv aa rfl (r_move (aa.get rfl)) fun _ ab => sqv ab rfl (r_len (ab.get rfl) tU22) fun _ ad => sqv ad rfl (r_move (ad.get rfl)) fun _ af => sqv af rfl (r_len (af.get rfl) tU22) fun _ x => sqv x rfl (r_neq (x.get rfl) (x.get rfl)) fun _ aA => sq_end ?_
 have y := aA.kp [(0, Sl.v c), (1, Sl.v d), (10, .bool (decide ((c.n : Int) ≠ (d.n : Int))))] rfl
 refine then_normal ?_
 refine wp_cond_split (y.get rfl) (fun hc => ?_) (fun hc => ?_)
 ·have aB := u.1 (of_decide_eq_true hc)
  clear hc
  refine wp_seq (wp_region_lit ?_)
  refine sqv y rfl (r_assign rfl) fun _ aC => sq_end ?_
  have ah := aC.kp [(4, .bool false)] rfl
  refine then_normal ?_
  refine wp_ret ?_
  refine then_ret ?_
  exact res_all (vs := [.bool false]) rfl ah ⟨res_of_tmp ah rfl, trivial⟩ aB
 ·have aD := u.2 (of_decide_eq_false hc)
  clear hc
  refine wp_skip ?_
  refine then_normal (wp_seq (wp_seq (wp_region_lit ?_)))
  refine sqv y rfl (r_assign rfl) fun _ aF => sq_end ?_
  have aG := aF.kp [(0, Sl.v c), (1, Sl.v d), (5, .int .i64 0)] rfl
  refine then_normal (wp_block ?_)
  obtain ⟨m, q, aH, aI⟩ := aD
  refine wp_loop_st (σ := Int × World) (fun s a w => Ag 26 a [(0, Sl.v c), (1, Sl.v d), (5, .int .i64 s.1)] ∧ w = s.2 ∧ m s.1 s.2) (fun s => q s.1 s.2) (0, w) ⟨aG.kp [(0, Sl.v c), (1, Sl.v d), (5, .int .i64 0)] rfl, rfl, aH⟩ ?_
  rintro ⟨b, l⟩ bh w_ ⟨ai, hw_, aJ⟩
  have hw_ : l = w_ := hw_.symm
  subst hw_
  have aj := aI b _ aJ
  refine wp_seq (wp_seq (wp_region_lit ?_))
  refine sqv ai rfl (r_move (ai.get rfl)) fun _ ak => sqv ak rfl (r_move (ak.get rfl)) fun _ al => sqv al rfl (r_len (al.get rfl) tU22) fun _ z => sqv z rfl (r_lss (z.get rfl) (z.get rfl)) fun _ aK => sq_end ?_
  have f := aK.kp [(0, Sl.v c), (1, Sl.v d), (5, .int .i64 b), (14, .bool (decide (b < (c.n : Int))))] rfl
  refine then_normal ?_
  refine wp_cond_split (f.get rfl) (fun hc => ?_) (fun hc => ?_)
  ·have aL := aj.1 (of_decide_eq_true hc)
   clear hc
   refine wp_skip ?_
   refine then_normal (wp_seq (wp_block (wp_seq ?_)))
   refine draw' (by kernel_rfl) fun i aM => ?_
   have aN : Chg [] l i := aM
   have aO := aL i    aN
   obtain ⟨o, am, aP⟩ := aO
   obtain ⟨j, aQ, aR⟩ := aP
   obtain ⟨p, an, aS⟩ := aR
   obtain ⟨k, aT, ao⟩ := aS
   refine par (D := [[], [], [0, 1], [0, 1, 2], [], [], [4, 5], [4, 5, 6], [0, 1, 2, 3, 4, 5, 6, 7]]) (S := [0, 1, 2, 3, 4, 5, 6, 7, 8]) (F := []) (V := VL [(0, fun v _ => v = Sl.v c), (1, fun v _ => v = .int .i64 b), (2, fun v _ => v = .pointer (some (o.add (b.toNat * 1)))), (3, fun v _ => v = .int .i64 j), (4, fun v _ => v = Sl.v d), (5, fun v _ => v = .int .i64 b), (6, fun v _ => v = .pointer (some (p.add (b.toNat * 1)))), (7, fun v _ => v = .int .i64 k), (8, fun v _ => v = .bool (decide (j ≠ k)))]) f (by kernel_rfl) ⟨fun _ _ _ _ h => h, fun _ _ _ _ h => h, fun _ _ _ _ h => h, fun _ _ _ _ h => h, fun _ _ _ _ h => h, fun _ _ _ _ h => h, fun _ _ _ _ h => h, fun _ _ _ _ h => h, fun _ _ _ _ h => h, trivial⟩ ⟨?_, ?_, ?_, ?_, ?_, ?_, ?_, ?_, ?_, trivial⟩ ?_
   ·intro a w hT
    have hAp := hT.ag f [(0, Sl.v c)] ⟨rfl, trivial⟩ (by kernel_rfl)
    exact ovr hAp rfl (r_move (hAp.get rfl)) fun _ => Eq.refl _
   ·intro a w hT
    have hAp := hT.ag f [(5, .int .i64 b)] ⟨rfl, trivial⟩ (by kernel_rfl)
    exact ovr hAp rfl (r_move (hAp.get rfl)) fun _ => Eq.refl _
   ·intro a w hT
    have hAp := hT.ag f [] trivial (by kernel_rfl)
    have hAp := hAp.add (t := 17) (v := Sl.v c) (hT.vals 0 rfl 17 rfl)
    have hAp := hAp.add (t := 18) (v := .int .i64 b) (hT.vals 1 rfl 18 rfl)
    exact ovr hAp rfl (r_indexAddr (hAp.get rfl) (hAp.get rfl) tU22 ti_3 am.1 am.2) fun _ => Eq.refl _
   ·intro a w hT
    have hAp := hT.ag f [] trivial (by kernel_rfl)
    have hAp := hAp.add (t := 19) (v := .pointer (some (o.add (b.toNat * 1)))) (hT.vals 2 rfl 19 rfl)
    exact ovr hAp rfl (r_load1 tU3 rfl (hAp.get rfl) (Ext.cell hT.chg aQ)) fun _ => Eq.refl _
   ·intro a w hT
    have hAp := hT.ag f [(1, Sl.v d)] ⟨rfl, trivial⟩ (by kernel_rfl)
    exact ovr hAp rfl (r_move (hAp.get rfl)) fun _ => Eq.refl _
   ·intro a w hT
    have hAp := hT.ag f [(5, .int .i64 b)] ⟨rfl, trivial⟩ (by kernel_rfl)
    exact ovr hAp rfl (r_move (hAp.get rfl)) fun _ => Eq.refl _
   ·intro a w hT
    have hAp := hT.ag f [] trivial (by kernel_rfl)
    have hAp := hAp.add (t := 21) (v := Sl.v d) (hT.vals 4 rfl 21 rfl)
    have hAp := hAp.add (t := 22) (v := .int .i64 b) (hT.vals 5 rfl 22 rfl)
    exact ovr hAp rfl (r_indexAddr (hAp.get rfl) (hAp.get rfl) tU22 ti_3 an.1 an.2) fun _ => Eq.refl _
   ·intro a w hT
    have hAp := hT.ag f [] trivial (by kernel_rfl)
    have hAp := hAp.add (t := 23) (v := .pointer (some (p.add (b.toNat * 1)))) (hT.vals 6 rfl 23 rfl)
    exact ovr hAp rfl (r_load1 tU3 rfl (hAp.get rfl) (Ext.cell hT.chg aT)) fun _ => Eq.refl _
   ·intro a w hT
    have hAp := hT.ag f [] trivial (by kernel_rfl)
    have hAp := hAp.add (t := 20) (v := .int .i64 j) (hT.vals 3 rfl 20 rfl)
    have hAp := hAp.add (t := 24) (v := .int .i64 k) (hT.vals 7 rfl 24 rfl)
    exact ovr hAp rfl (r_neq (hAp.get rfl) (hAp.get rfl)) fun _ => Eq.refl _
   ·intro aU g aV aX aY
    have aZ := aX [(0, Sl.v c), (1, Sl.v d), (5, .int .i64 b)] ⟨rfl, rfl, rfl, trivial⟩ (by kernel_rfl)
    have e115 : aU.tmps.getD 25 undef = .bool (decide (j ≠ k)) := aY 8 rfl 25 rfl
    have a1 := aZ.add e115
    have ap : Chg [] i g := aV
    refine PR_end (by kernel_rfl) ?_
    have r := a1.kp [(0, Sl.v c), (1, Sl.v d), (5, .int .i64 b), (25, .bool (decide (j ≠ k)))] rfl
    refine then_normal ?_
    refine wp_cond_split (r.get rfl) (fun hc => ?_) (fun hc => ?_)
    ·have a2 := ao.1 (of_decide_eq_true hc)
     clear hc
     refine wp_seq (wp_region_lit ?_)
     refine sqv r rfl (r_assign rfl) fun _ a3 => sq_end ?_
     have aq := a3.kp [(4, .bool false)] rfl
     refine then_normal ?_
     refine wp_ret ?_
     refine block_ret ?_
     refine then_ret ?_
     refine then_ret ?_
     refine block_ret ?_
     refine then_ret ?_
     have a4 := a2 g    ap
     exact res_all (vs := [.bool false]) rfl aq ⟨res_of_tmp aq rfl, trivial⟩ a4
    ·have a5 := ao.2 (of_decide_eq_false hc)
     clear hc
     refine wp_skip ?_
     refine block_normal ?_
     refine then_normal (wp_region_lit ?_)
     refine sqv r rfl (r_move (r.get rfl)) fun _ ar => ?_
     obtain ⟨a6, a7⟩ := a5
     refine sqv ar rfl (r_addI (ar.get rfl) rfl a6) fun _ au => sqv au rfl (r_assign (au.get rfl)) fun _ a8 => sq_end ?_
     have a9 := a8.kp [(0, Sl.v c), (1, Sl.v d), (5, .int .i64 (b + 1))] rfl
     have av := a7 g    ap
     have ba := a9.kp [(0, Sl.v c), (1, Sl.v d), (5, .int .i64 (b + 1))] rfl
     exact then_normal ⟨(b + 1, g), ⟨ba, rfl, av.1⟩, av.2⟩
  ·have bb := aj.2 (of_decide_eq_false hc)
   clear hc
   refine wp_exit ?_
   refine then_exit ?_
   refine then_exit ?_
   refine block_hit ?_
   have bd := f.kp [] rfl
   refine then_normal (wp_seq (wp_region_lit ?_))
   refine sqv bd rfl (r_assign rfl) fun _ bf => sq_end ?_
   have ax := bf.kp [(4, .bool true)] rfl
   refine then_normal ?_
   refine wp_ret ?_
   exact res_all (vs := [.bool true]) rfl ax ⟨res_of_tmp ax rfl, trivial⟩ bb
end Go.Proofs.Yteohbfaechfliaa
