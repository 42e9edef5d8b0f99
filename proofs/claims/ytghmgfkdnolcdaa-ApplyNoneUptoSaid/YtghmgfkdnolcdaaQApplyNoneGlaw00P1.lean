/-
  PRINTED BY PROGRAM: for each function its condition (vc), and that this suffices (ok).
-/
import Derived.Test.YtghmgfkdnolcdaaQApplyNoneGT
namespace Go.Proofs.Ytghmgfkdnolcdaa
open Go.RowKit
set_option linter.unusedVariables false
set_option maxHeartbeats 1000000
set_option maxRecDepth 10000
def law00_Tree.vc (p : Int) (q : Str) (r : Str) (aa : Sl) (u : Sl) (R : Value → World → Prop) (w : World) : Prop :=
∀ (ab : World) (d : Nat) (m : Nat), New w d ab → New w m ab → d ≠ m → Chg [] w ab →
∃ ak : Sl → World → Prop, (∀ c : Sl, ∀ w' w'' : World, Ext w' w'' → ak c w' → ak c w'') ∧
(∀ w' : World, Ext ab w' → Calls Try.prog 58 #[Sl.v aa] w' (Ret fun v w'' => Ext w' w'' ∧ ∃ c : Sl, v = Sl.v c ∧ ak c w'')) ∧
∀ (ah : World) (c : Sl) (b : Nat), Ext ab ah → ak c ah → ab.heap.size ≤ b → Box ah b 29 [.int .i64 0, .string (Bs ([] : Str)), .string (Bs ([] : Str)), Sl.v Sl.nil, Sl.v Sl.nil] → 
∀ (al : World), Chg [b] ah al →
∃ (ay : Int → Sl → World → Prop) (aC : Int → Sl → World → Nat),
ay 0 Sl.nil al ∧
(∀ (o : Int) (x : Sl) (ai : World), ay o x ai →
((o < (u.n : Int)) →
∀ (ad : World), Chg [] ai ad →
∃ az : Addr, (((0 : Int) ≤ o ∧ o < (u.n : Int)) ∧ u.a = some az) ∧
∃ (ao : Int) (ap : Str) (aq : Str) (ar : Sl) (au : Sl), (Cells ad (az.add (o.toNat * 5)) [.int .i64 ao, .string (Bs ap), .string (Bs aq), Sl.v ar, Sl.v au]) ∧
∃ am : Int → Str → Str → Sl → Sl → World → Prop, (∀ f : Int, ∀ g : Str, ∀ j : Str, ∀ k : Sl, ∀ l : Sl, ∀ w' w'' : World, Ext w' w'' → am f g j k l w' → am f g j k l w'') ∧
(∀ w' : World, Ext ad w' → Calls Try.prog 25 #[.agg #[.int .i64 ao, .string (Bs ap), .string (Bs aq), Sl.v ar, Sl.v au]] w' (Ret fun v w'' => Ext w' w'' ∧ ∃ f : Int, ∃ g : Str, ∃ j : Str, ∃ k : Sl, ∃ l : Sl, v = .agg #[.int .i64 f, .string (Bs g), .string (Bs j), Sl.v k, Sl.v l] ∧ am f g j k l w'')) ∧
∀ (aj : World) (f : Int) (g : Str) (j : Str) (k : Sl) (l : Sl) (t : Nat), Ext ad aj → am f g j k l aj → ad.heap.size ≤ t → Box aj t 29 [.int .i64 f, .string (Bs g), .string (Bs j), Sl.v k, Sl.v l] → 
∀ (_ : Box aj t 29 [.int .i64 f, .string (Bs g), .string (Bs j), Sl.v k, Sl.v l]),
RunK Try.prog (Builtin.append_ #[27, 27] 27 #[Sl.v x, Sl.v (Sl.mk (some ⟨t, 0, none⟩) 1 1)]) aj [d, m, b] (fun v aI => ∃ (af : Sl), v = Sl.v af ∧
(I64 (o + 1)) ∧
∀ (an : World), Chg [b] aI an →
ay (o + 1) af an ∧ aC (o + 1) af an < aC o x ai)) ∧
((¬ (o < (u.n : Int))) →
∀ (av : World), Chg [m] ai av →
R (.agg #[.int .i64 p, .string (Bs q), .string (Bs r), Sl.v c, Sl.v x]) av))
theorem law00_Tree.ok (p : Int) (q : Str) (r : Str) (aa : Sl) (u : Sl) {R : Value → World → Prop} {w : World} (a1 : law00_Tree.vc p q r aa u R w) : Calls Try.prog 25 #[.agg #[.int .i64 p, .string (Bs q), .string (Bs r), Sl.v aa, Sl.v u]] w (Ret R) := by
 refine enter [.agg #[.int .i64 p, .string (Bs q), .string (Bs r), Sl.v aa, Sl.v u]] Try.func25 rfl Try.ntmps25 rfl ?_
 intro a0 a2
 unfold law00_Tree.vc at a1
 refine wp_seq (wp_region_lit ?_)
 refine sq (opk_new (fun B => .pointer (some ⟨B, 0, none⟩)) a2 rfl (r_box (cs := [.int .i64 p, .string (Bs q), .string (Bs r), Sl.v aa, Sl.v u]) (a2.get rfl) rfl) fun a4 w3 d bz bA hB7 bB _ => ?_)
 have bC : New w d w3 := bA
 have a5 : Chg [] w w3 := bz
 refine sq (opk_new (fun B => .pointer (some ⟨B, 0, none⟩)) bB rfl (r_alloc (cs := [.int .i64 0, .string (Bs ([] : Str)), .string (Bs ([] : Str)), Sl.v Sl.nil, Sl.v Sl.nil]) ti_29 rfl) fun dC dD m aJ a6 bD bF _ => ?_)
 have bG : d ≠ m := Nat.ne_of_lt (Nat.lt_of_lt_of_le hB7.lt a6.ge)
 have bH := New.of a5 a6
 have bI := hB7.ext aJ
 have bJ := a5.more aJ
 have bK := bC.up aJ.size
 refine sq_end ?_
 have y := bF.keep [(1, .pointer (some (⟨d, 0, none⟩ : Addr))), (2, .pointer (some (⟨m, 0, none⟩ : Addr)))] ⟨rfl, rfl, trivial⟩
 refine then_normal (wp_seq ?_)
 refine draw' (by kernel_rfl) fun ab aA => ?_
 have ax := bI.ext aA
 have a7 := bD.ext aA
 have bL := bJ.more aA
 have bM := bK.up aA.size
 have bN := bH.up aA.size
 have bO := a1 ab d m bM bN bG bL
 obtain ⟨ak, a8, bP, bQ⟩ := bO
 refine par (D := [[], [0], [], [2], [], [4], [], [6], [6, 7], [0, 1, 2, 3, 4, 5, 6, 7, 8], [], [0, 1, 2, 3, 4, 5, 6, 7, 8, 9, 10]]) (S := [0, 1, 2, 3, 4, 5, 6, 7, 8, 9, 10]) (F := []) (V := VL [(0, fun v _ => v = .pointer (some (⟨d, 0, none⟩ : Addr))), (1, fun v _ => v = .int .i64 p), (2, fun v _ => v = .pointer (some (⟨d, 1, none⟩ : Addr))), (3, fun v _ => v = .string (Bs q)), (4, fun v _ => v = .pointer (some (⟨d, 2, none⟩ : Addr))), (5, fun v _ => v = .string (Bs r)), (6, fun v _ => v = .pointer (some (⟨d, 3, none⟩ : Addr))), (7, fun v _ => v = Sl.v aa), (8, fun v w' => ∃ c : Sl, ak c w' ∧ v = Sl.v c), (9, fun v w' => ∃ c : Sl, ak c w' ∧ v = .agg #[.int .i64 p, .string (Bs q), .string (Bs r), Sl.v c, Sl.v Sl.nil]), (10, fun v w' => ∃ b : Nat, ab.heap.size ≤ b ∧ Box w' b 29 [.int .i64 0, .string (Bs ([] : Str)), .string (Bs ([] : Str)), Sl.v Sl.nil, Sl.v Sl.nil] ∧ v = .pointer (some (⟨b, 0, none⟩ : Addr)))]) y (by kernel_rfl) ⟨fun _ _ _ _ h => h, fun _ _ _ _ h => h, fun _ _ _ _ h => h, fun _ _ _ _ h => h, fun _ _ _ _ h => h, fun _ _ _ _ h => h, fun _ _ _ _ h => h, fun _ _ _ _ h => h, fun _ _ _ hE ⟨c, h0_, e⟩ => ⟨c, (a8 c _ _ hE h0_), e⟩, fun _ _ _ hE ⟨c, h0_, e⟩ => ⟨c, (a8 c _ _ hE h0_), e⟩, fun _ _ _ hE ⟨b, h0_, h1_, e⟩ => ⟨b, h0_, (h1_.ext hE), e⟩, trivial⟩ ⟨?_, ?_, ?_, ?_, ?_, ?_, ?_, ?_, ?_, ?_, ?_, trivial⟩ ?_
 ·intro a w hT
  have hAp := hT.ag y [(1, .pointer (some (⟨d, 0, none⟩ : Addr)))] ⟨rfl, trivial⟩ (by kernel_rfl)
  exact ovr hAp rfl (r_fieldAddr (hAp.get rfl) Try.underlying29 rfl ti_3 (by decide)) fun _ => Eq.refl _
 ·intro a w hT
  have hAp := hT.ag y [] trivial (by kernel_rfl)
  have bR : a.tmps.getD 5 undef = .pointer (some (⟨d, 0, none⟩ : Addr)) := hT.vals 0 rfl 5 rfl
  have hAp := hAp.add bR
  exact ovr hAp rfl (r_load1 Try.underlying3 rfl (hAp.get rfl) ((ax.ext hT.chg).cell 0 _ rfl)) fun _ => Eq.refl _
 ·intro a w hT
  have hAp := hT.ag y [(1, .pointer (some (⟨d, 0, none⟩ : Addr)))] ⟨rfl, trivial⟩ (by kernel_rfl)
  exact ovr hAp rfl (r_fieldAddr (hAp.get rfl) Try.underlying29 rfl ti_9 (by decide)) fun _ => Eq.refl _
 ·intro a w hT
  have hAp := hT.ag y [] trivial (by kernel_rfl)
  have bS : a.tmps.getD 7 undef = .pointer (some (⟨d, 1, none⟩ : Addr)) := hT.vals 2 rfl 7 rfl
  have hAp := hAp.add bS
  exact ovr hAp rfl (r_load1 Try.underlying9 rfl (hAp.get rfl) ((ax.ext hT.chg).cell 1 _ rfl)) fun _ => Eq.refl _
 ·intro a w hT
  have hAp := hT.ag y [(1, .pointer (some (⟨d, 0, none⟩ : Addr)))] ⟨rfl, trivial⟩ (by kernel_rfl)
  exact ovr hAp rfl (r_fieldAddr (hAp.get rfl) Try.underlying29 rfl ti_9 (by decide)) fun _ => Eq.refl _
 ·intro a w hT
  have hAp := hT.ag y [] trivial (by kernel_rfl)
  have bT : a.tmps.getD 9 undef = .pointer (some (⟨d, 2, none⟩ : Addr)) := hT.vals 4 rfl 9 rfl
  have hAp := hAp.add bT
  exact ovr hAp rfl (r_load1 Try.underlying9 rfl (hAp.get rfl) ((ax.ext hT.chg).cell 2 _ rfl)) fun _ => Eq.refl _
 ·intro a w hT
  have hAp := hT.ag y [(1, .pointer (some (⟨d, 0, none⟩ : Addr)))] ⟨rfl, trivial⟩ (by kernel_rfl)
  exact ovr hAp rfl (r_fieldAddr (hAp.get rfl) Try.underlying29 rfl ti_26 (by decide)) fun _ => Eq.refl _
 ·intro a w hT
  have hAp := hT.ag y [] trivial (by kernel_rfl)
  have bU : a.tmps.getD 11 undef = .pointer (some (⟨d, 3, none⟩ : Addr)) := hT.vals 6 rfl 11 rfl
  have hAp := hAp.add bU
  exact ovr hAp rfl (r_load1 Try.underlying26 rfl (hAp.get rfl) ((ax.ext hT.chg).cell 3 _ rfl)) fun _ => Eq.refl _
 ·intro a w hT
  have hAp := hT.ag y [] trivial (by kernel_rfl)
  have bV : a.tmps.getD 12 undef = Sl.v aa := hT.vals 7 rfl 12 rfl
  have hAp := hAp.add bV
  exact opk_callX hAp rfl (r_call (args := #[Sl.v aa]) Try.func58 (by decide) rfl (map_arr (ml_cons (hAp.get rfl) ml_nil)) rfl) (bP w hT.chg) fun _ _ _ _ e ⟨hE, c, he, hV⟩ => ⟨_, e, hE, fun _ => ⟨c, hV, he⟩⟩
 ·intro a w hT
  have hAp := hT.ag y [] trivial (by kernel_rfl)
  have bX : a.tmps.getD 6 undef = .int .i64 p := hT.vals 1 rfl 6 rfl
  have hAp := hAp.add bX
  have bY : a.tmps.getD 8 undef = .string (Bs q) := hT.vals 3 rfl 8 rfl
  have hAp := hAp.add bY
  have bZ : a.tmps.getD 10 undef = .string (Bs r) := hT.vals 5 rfl 10 rfl
  have hAp := hAp.add bZ
  obtain ⟨c, b0, b1⟩ := hT.vals 8 rfl 13 rfl
  have hAp := hAp.add b1
  exact opk_val hAp rfl (r_build (vs := #[(0, .int .i64 p), (1, .string (Bs q)), (2, .string (Bs r)), (3, Sl.v c)]) (cells := #[.int .i64 p, .string (Bs q), .string (Bs r), Sl.v c, Sl.v Sl.nil]) (map_arr2 (ml2_cons (hAp.get rfl) (ml2_cons (hAp.get rfl) (ml2_cons (hAp.get rfl) (ml2_cons (hAp.get rfl) (ml2_nil)))))) ti_29 Try.underlying29 pl_29 (by kernel_rfl)) fun _ _ e => ⟨_, e, Chg.refl _ _, fun _ => ⟨c, b0, rfl⟩⟩
 ·intro a w hT
  have hAp := hT.ag y [] trivial (by kernel_rfl)
  exact opk_new (fun B => .pointer (some ⟨B, 0, none⟩)) hAp rfl (r_alloc (cs := [.int .i64 0, .string (Bs ([] : Str)), .string (Bs ([] : Str)), Sl.v Sl.nil, Sl.v Sl.nil]) ti_29 rfl) fun _ dF b b2 b3 b4 _ e => ⟨_, e, b2, fun _ => ⟨b, Nat.le_trans hT.chg.size b3.ge, b4, rfl⟩⟩
 ·intro dG ah aD b5 a9
  have b6 := b5 [(1, .pointer (some (⟨d, 0, none⟩ : Addr))), (2, .pointer (some (⟨m, 0, none⟩ : Addr)))] ⟨rfl, rfl, trivial⟩ (by kernel_rfl)
  obtain ⟨c, b7, b8⟩ := a9 9 rfl 14 rfl
  have b9 := b6.add b8
  obtain ⟨b, aK, aL, ca⟩ := a9 10 rfl 3 rfl
  have aM := b9.add ca
  have cb := ax.ext aD
  have cc := a7.ext aD
  have dH : Chg [] ab ah := aD
  have cd := bQ ah c b aD b7 aK aL
  have ba : d ≠ b := Nat.ne_of_lt (Nat.lt_of_lt_of_le ax.lt aK)
  have aN : m ≠ b := Nat.ne_of_lt (Nat.lt_of_lt_of_le a7.lt aK)
  refine one (D := [[], [0], [], [2], [], [4], [], [6], [6, 7], [0, 1, 2, 3, 4, 5, 6, 7, 8], [], [0, 1, 2, 3, 4, 5, 6, 7, 8, 9, 10]]) (i := 11) rfl (by kernel_rfl) (opk_store aM aL (r_store (vs := [.int .i64 p, .string (Bs q), .string (Bs r), Sl.v c, Sl.v Sl.nil]) (aM.get rfl) (aM.get rfl) rfl ti_29 aL rfl (ones_all [.int .i64 p, .string (Bs q), .string (Bs r), Sl.v c, Sl.v Sl.nil] rfl)) fun dI al aO cf cg => ?_)
  have ch : Box al b 29 [.int .i64 p, .string (Bs q), .string (Bs r), Sl.v c, Sl.v Sl.nil] := cf
  have ci := cb.keep aO (by simpa using ba)
  have cj := cc.keep aO (by simpa using aN)
  have ck : Chg [b] ah al := aO
  refine PR_end (by kernel_rfl) ?_
  have cl := cg.keep [(1, .pointer (some (⟨d, 0, none⟩ : Addr))), (2, .pointer (some (⟨m, 0, none⟩ : Addr))), (3, .pointer (some (⟨b, 0, none⟩ : Addr)))] ⟨rfl, rfl, rfl, trivial⟩
  refine then_normal (wp_seq (wp_seq (wp_region_lit ?_)))
  refine sqv cl rfl (r_assign rfl) fun _ cm => ?_
  refine sq_end ?_
  have cn := cm.keep [(1, .pointer (some (⟨d, 0, none⟩ : Addr))), (2, .pointer (some (⟨m, 0, none⟩ : Addr))), (3, .pointer (some (⟨b, 0, none⟩ : Addr))), (4, .int .i64 0)] ⟨rfl, rfl, rfl, rfl, trivial⟩
  refine then_normal (wp_block ?_)
  have co := cd al    ck
  obtain ⟨ay, aC, cp, cq⟩ := co
  refine wp_loop_st (σ := Int × Sl × World) (fun s a w => Ag 34 a [(1, .pointer (some (⟨d, 0, none⟩ : Addr))), (2, .pointer (some (⟨m, 0, none⟩ : Addr))), (3, .pointer (some (⟨b, 0, none⟩ : Addr))), (4, .int .i64 s.1)] ∧ Box w d 29 [.int .i64 p, .string (Bs q), .string (Bs r), Sl.v aa, Sl.v u] ∧ Box w m 29 [.int .i64 0, .string (Bs ([] : Str)), .string (Bs ([] : Str)), Sl.v Sl.nil, Sl.v Sl.nil] ∧ Box w b 29 [.int .i64 p, .string (Bs q), .string (Bs r), Sl.v c, Sl.v s.2.1] ∧ w = s.2.2 ∧ ay s.1 s.2.1 s.2.2) (fun s => aC s.1 s.2.1 s.2.2) (0, Sl.nil, al) ⟨cn.keep [(1, .pointer (some (⟨d, 0, none⟩ : Addr))), (2, .pointer (some (⟨m, 0, none⟩ : Addr))), (3, .pointer (some (⟨b, 0, none⟩ : Addr))), (4, .int .i64 0)] ⟨rfl, rfl, rfl, rfl, trivial⟩, ci, cj, ch, rfl, cp⟩ ?_
  rintro ⟨o, x, ai⟩ dJ w_ ⟨bb, bd, aP, aQ, hw_, cr⟩
  have hw_ : ai = w_ := hw_.symm
  subst hw_
  have bf := cq o x _ cr
  refine wp_seq (wp_seq (wp_region_lit ?_))
  refine sqv bb rfl (r_move (bb.get rfl)) fun _ bg => ?_
  refine sqv bg rfl (r_fieldAddr (bg.get rfl) Try.underlying29 rfl ti_27 (by decide)) fun _ bh => ?_
  refine sqv bh rfl (r_load1 Try.underlying27 rfl (bh.get rfl) (bd.cell 4 _ rfl)) fun _ bi => ?_
  refine sqv bi rfl (r_len (bi.get rfl) Try.underlying27) fun _ aR => ?_
  refine sqv aR rfl (r_lss (aR.get rfl) (aR.get rfl)) fun _ ct => ?_
  refine sq_end ?_
  have z := ct.keep [(1, .pointer (some (⟨d, 0, none⟩ : Addr))), (2, .pointer (some (⟨m, 0, none⟩ : Addr))), (3, .pointer (some (⟨b, 0, none⟩ : Addr))), (4, .int .i64 o), (19, .bool (decide (o < (u.n : Int))))] ⟨rfl, rfl, rfl, rfl, rfl, trivial⟩
  refine then_normal ?_
  refine wp_cond_split (z.get rfl) (fun hc => ?_) (fun hc => ?_)
  ·have cu := bf.1 (of_decide_eq_true hc)
   clear hc
   refine wp_skip ?_
   refine then_normal (wp_seq (wp_block ?_))
   refine draw' (by kernel_rfl) fun ad aF => ?_
   have aS := bd.ext aF
   have bj := aP.ext aF
   have aT := aQ.ext aF
   have cv : Chg [] ai ad := aF
   have cx := cu ad    cv
   obtain ⟨az, bk, cy⟩ := cx
   obtain ⟨ao, ap, aq, ar, au, cz, cA⟩ := cy
   obtain ⟨am, aU, cB, cC⟩ := cA
   refine par (D := [[], [0], [], [2], [], [2, 3, 4], [2, 3, 4, 5], [2, 3, 4, 5, 6], [2, 3, 4, 5, 6, 7], [0, 1, 2, 3, 4, 5, 6, 7, 8], [0, 1, 2, 3, 4, 5, 6, 7, 8, 9], [0, 1, 2, 3, 4, 5, 6, 7, 8, 9, 10]]) (S := [0, 1, 2, 3, 4, 5, 6, 7, 8]) (F := []) (V := VL [(0, fun v _ => v = .pointer (some (⟨b, 4, none⟩ : Addr))), (1, fun v _ => v = Sl.v x), (2, fun v _ => v = .pointer (some (⟨d, 4, none⟩ : Addr))), (3, fun v _ => v = Sl.v u), (4, fun v _ => v = .int .i64 o), (5, fun v _ => v = .pointer (some (az.add (o.toNat * 5)))), (6, fun v _ => v = .agg #[.int .i64 ao, .string (Bs ap), .string (Bs aq), Sl.v ar, Sl.v au]), (7, fun v w' => ∃ f : Int, ∃ g : Str, ∃ j : Str, ∃ k : Sl, ∃ l : Sl, am f g j k l w' ∧ v = .agg #[.int .i64 f, .string (Bs g), .string (Bs j), Sl.v k, Sl.v l]), (8, fun v w' => ∃ f : Int, ∃ g : Str, ∃ j : Str, ∃ k : Sl, ∃ l : Sl, ∃ t : Nat, am f g j k l w' ∧ ad.heap.size ≤ t ∧ Box w' t 29 [.int .i64 f, .string (Bs g), .string (Bs j), Sl.v k, Sl.v l] ∧ v = Sl.v (Sl.mk (some ⟨t, 0, none⟩) 1 1))]) z (by kernel_rfl) ⟨fun _ _ _ _ h => h, fun _ _ _ _ h => h, fun _ _ _ _ h => h, fun _ _ _ _ h => h, fun _ _ _ _ h => h, fun _ _ _ _ h => h, fun _ _ _ _ h => h, fun _ _ _ hE ⟨f, g, j, k, l, h0_, e⟩ => ⟨f, g, j, k, l, (aU f g j k l _ _ hE h0_), e⟩, fun _ _ _ hE ⟨f, g, j, k, l, t, h0_, h1_, h2_, e⟩ => ⟨f, g, j, k, l, t, (aU f g j k l _ _ hE h0_), h1_, (h2_.ext hE), e⟩, trivial⟩ ⟨?_, ?_, ?_, ?_, ?_, ?_, ?_, ?_, ?_, trivial⟩ ?_
   ·intro a w hT
    have hAp := hT.ag z [(3, .pointer (some (⟨b, 0, none⟩ : Addr)))] ⟨rfl, trivial⟩ (by kernel_rfl)
    exact ovr hAp rfl (r_fieldAddr (hAp.get rfl) Try.underlying29 rfl ti_27 (by decide)) fun _ => Eq.refl _
   ·intro a w hT
    have hAp := hT.ag z [] trivial (by kernel_rfl)
    have cD : a.tmps.getD 22 undef = .pointer (some (⟨b, 4, none⟩ : Addr)) := hT.vals 0 rfl 22 rfl
    have hAp := hAp.add cD
    exact ovr hAp rfl (r_load1 Try.underlying27 rfl (hAp.get rfl) ((aT.ext hT.chg).cell 4 _ rfl)) fun _ => Eq.refl _
   ·intro a w hT
    have hAp := hT.ag z [(1, .pointer (some (⟨d, 0, none⟩ : Addr)))] ⟨rfl, trivial⟩ (by kernel_rfl)
    exact ovr hAp rfl (r_fieldAddr (hAp.get rfl) Try.underlying29 rfl ti_27 (by decide)) fun _ => Eq.refl _
   ·intro a w hT
    have hAp := hT.ag z [] trivial (by kernel_rfl)
    have cF : a.tmps.getD 24 undef = .pointer (some (⟨d, 4, none⟩ : Addr)) := hT.vals 2 rfl 24 rfl
    have hAp := hAp.add cF
    exact ovr hAp rfl (r_load1 Try.underlying27 rfl (hAp.get rfl) ((aS.ext hT.chg).cell 4 _ rfl)) fun _ => Eq.refl _
   ·intro a w hT
    have hAp := hT.ag z [(4, .int .i64 o)] ⟨rfl, trivial⟩ (by kernel_rfl)
    exact ovr hAp rfl (r_move (hAp.get rfl)) fun _ => Eq.refl _
   ·intro a w hT
    have hAp := hT.ag z [] trivial (by kernel_rfl)
    have cG : a.tmps.getD 25 undef = Sl.v u := hT.vals 3 rfl 25 rfl
    have hAp := hAp.add cG
    have cH : a.tmps.getD 26 undef = .int .i64 o := hT.vals 4 rfl 26 rfl
    have hAp := hAp.add cH
    exact ovr hAp rfl (r_indexAddr (hAp.get rfl) (hAp.get rfl) Try.underlying27 ti_29 bk.1 bk.2) fun _ => Eq.refl _
   ·intro a w hT
    have hAp := hT.ag z [] trivial (by kernel_rfl)
    have cI : a.tmps.getD 27 undef = .pointer (some (az.add (o.toNat * 5))) := hT.vals 5 rfl 27 rfl
    have hAp := hAp.add cI
    exact ovr hAp rfl (r_loadN Try.underlying29 rfl ti_29 (hAp.get rfl) (cz.ext hT.chg)) fun _ => Eq.refl _
   ·intro a w hT
    have hAp := hT.ag z [] trivial (by kernel_rfl)
    have cJ : a.tmps.getD 28 undef = .agg #[.int .i64 ao, .string (Bs ap), .string (Bs aq), Sl.v ar, Sl.v au] := hT.vals 6 rfl 28 rfl
    have hAp := hAp.add cJ
    exact opk_callX hAp rfl (r_call (args := #[.agg #[.int .i64 ao, .string (Bs ap), .string (Bs aq), Sl.v ar, Sl.v au]]) Try.func25 (by decide) rfl (map_arr (ml_cons (hAp.get rfl) ml_nil)) rfl) (cB w hT.chg) fun _ _ _ _ e ⟨hE, f, g, j, k, l, he, hV⟩ => ⟨_, e, hE, fun _ => ⟨f, g, j, k, l, hV, he⟩⟩
   ·intro a w hT
    have hAp := hT.ag z [] trivial (by kernel_rfl)
    obtain ⟨f, g, j, k, l, cK, cL⟩ := hT.vals 7 rfl 29 rfl
    have hAp := hAp.add cL
    exact opk_new (fun B => .slice (some ⟨B, 0, none⟩) 1 1) hAp rfl (r_buildSlice (vs := #[(0, .agg #[.int .i64 f, .string (Bs g), .string (Bs j), Sl.v k, Sl.v l])]) (cs := [.int .i64 f, .string (Bs g), .string (Bs j), Sl.v k, Sl.v l]) (map_arr2 (ml2_cons (hAp.get rfl) (ml2_nil))) Try.underlying27 ti_29 rfl rfl (by kernel_rfl)) fun _ dK t bl cM cN _ e => ⟨_, e, bl, fun _ => ⟨f, g, j, k, l, t, (aU f g j k l _ _ bl cK), Nat.le_trans hT.chg.size cM.ge, cN, rfl⟩⟩
   ·intro cO aj aB cP bm
    have cQ := cP [(1, .pointer (some (⟨d, 0, none⟩ : Addr))), (2, .pointer (some (⟨m, 0, none⟩ : Addr))), (3, .pointer (some (⟨b, 0, none⟩ : Addr))), (4, .int .i64 o)] ⟨rfl, rfl, rfl, rfl, trivial⟩ (by kernel_rfl)
    have cR : cO.tmps.getD 23 undef = Sl.v x := bm 1 rfl 23 rfl
    have cS := cQ.add cR
    obtain ⟨f, g, j, k, l, t, cT, aG, bn, cU⟩ := bm 8 rfl 30 rfl
    have aV := cS.add cU
    have cX := aS.ext aB
    have cY := bj.ext aB
    have cZ := aT.ext aB
    have dL : Chg [] ad aj := aB
    have c0 := cC aj f g j k l t aB cT aG bn
    have dM : d ≠ t := Nat.ne_of_lt (Nat.lt_of_lt_of_le aS.lt aG)
    have dN : m ≠ t := Nat.ne_of_lt (Nat.lt_of_lt_of_le bj.lt aG)
    have dO : b ≠ t := Nat.ne_of_lt (Nat.lt_of_lt_of_le aT.lt aG)
    have c1 := c0 bn
    refine one (D := [[], [0], [], [2], [], [2, 3, 4], [2, 3, 4, 5], [2, 3, 4, 5, 6], [2, 3, 4, 5, 6, 7], [0, 1, 2, 3, 4, 5, 6, 7, 8], [0, 1, 2, 3, 4, 5, 6, 7, 8, 9], [0, 1, 2, 3, 4, 5, 6, 7, 8, 9, 10]]) (i := 9) rfl (by kernel_rfl) (opk_run aV rfl (fun _ _ hr => r_append (aV.get rfl) (aV.get rfl) hr) c1 fun dP dQ aI bo _ aX dR c2 => ?_)
    obtain ⟨af, rfl, c3⟩ := c2
    have c4 := cX.kept aX (.head _)
    have c5 := cY.kept aX (.tail _ (.head _))
    have c6 := cZ.kept aX (.tail _ (.tail _ (.head _)))
    refine par (D := [[], [0], [], [2], [], [2, 3, 4], [2, 3, 4, 5], [2, 3, 4, 5, 6], [2, 3, 4, 5, 6, 7], [0, 1, 2, 3, 4, 5, 6, 7, 8], [0, 1, 2, 3, 4, 5, 6, 7, 8, 9], [0, 1, 2, 3, 4, 5, 6, 7, 8, 9, 10]]) (S := [10]) (F := []) (V := VL [(10, fun v _ => v = .pointer (some (⟨b, 4, none⟩ : Addr)))]) bo (by kernel_rfl) ⟨fun _ _ _ _ h => h, trivial⟩ ⟨?_, trivial⟩ ?_
    ·intro a w hT
     have hAp := hT.ag bo [(3, .pointer (some (⟨b, 0, none⟩ : Addr)))] ⟨rfl, trivial⟩ (by kernel_rfl)
     exact ovr hAp rfl (r_fieldAddr (hAp.get rfl) Try.underlying29 rfl ti_27 (by decide)) fun _ => Eq.refl _
    ·intro c7 c8 aH c9 da
     have db := c9 [(1, .pointer (some (⟨d, 0, none⟩ : Addr))), (2, .pointer (some (⟨m, 0, none⟩ : Addr))), (3, .pointer (some (⟨b, 0, none⟩ : Addr))), (4, .int .i64 o), (31, Sl.v af)] ⟨rfl, rfl, rfl, rfl, rfl, trivial⟩ (by kernel_rfl)
     have dc : c7.tmps.getD 32 undef = .pointer (some (⟨b, 4, none⟩ : Addr)) := da 10 rfl 32 rfl
     have aY := db.add dc
     have dd := c4.ext aH
     have df := c5.ext aH
     have bp := c6.ext aH
     have dg : Chg [] aI c8 := aH
     refine one (D := [[], [0], [], [2], [], [2, 3, 4], [2, 3, 4, 5], [2, 3, 4, 5, 6], [2, 3, 4, 5, 6, 7], [0, 1, 2, 3, 4, 5, 6, 7, 8], [0, 1, 2, 3, 4, 5, 6, 7, 8, 9], [0, 1, 2, 3, 4, 5, 6, 7, 8, 9, 10]]) (i := 11) rfl (by kernel_rfl) (opk_store aY bp (r_store (vs := [Sl.v af]) (aY.get rfl) (aY.get rfl) rfl ti_27 bp rfl (ones_all [Sl.v af] rfl)) fun dS an aZ dh di => ?_)
     have dj : Box an b 29 [.int .i64 p, .string (Bs q), .string (Bs r), Sl.v c, Sl.v af] := dh
     have dk := dd.keep aZ (by simpa using ba)
     have dl := df.keep aZ (by simpa using aN)
     have dm := dg.storeOld aZ
     refine PR_end (by kernel_rfl) ?_
     have bq := di.keep [(1, .pointer (some (⟨d, 0, none⟩ : Addr))), (2, .pointer (some (⟨m, 0, none⟩ : Addr))), (3, .pointer (some (⟨b, 0, none⟩ : Addr))), (4, .int .i64 o)] ⟨rfl, rfl, rfl, rfl, trivial⟩
     refine block_normal ?_
     refine then_normal (wp_region_lit ?_)
     refine sqv bq rfl (r_move (bq.get rfl)) fun _ br => ?_
     obtain ⟨dn, dp⟩ := c3
     refine sqv br rfl (r_addI (br.get rfl) rfl dn) fun _ bs => ?_
     refine sqv bs rfl (r_assign (bs.get rfl)) fun _ dq => ?_
     refine sq_end ?_
     have dr := dq.keep [(1, .pointer (some (⟨d, 0, none⟩ : Addr))), (2, .pointer (some (⟨m, 0, none⟩ : Addr))), (3, .pointer (some (⟨b, 0, none⟩ : Addr))), (4, .int .i64 (o + 1))] ⟨rfl, rfl, rfl, rfl, trivial⟩
     have bt := dp an    dm
     have ds := dr.keep [(1, .pointer (some (⟨d, 0, none⟩ : Addr))), (2, .pointer (some (⟨m, 0, none⟩ : Addr))), (3, .pointer (some (⟨b, 0, none⟩ : Addr))), (4, .int .i64 (o + 1))] ⟨rfl, rfl, rfl, rfl, trivial⟩
     exact then_normal ⟨(o + 1, af, an), ⟨ds, dk, dl, dj, rfl, bt.1⟩, bt.2⟩
  ·have dt := bf.2 (of_decide_eq_false hc)
   clear hc
   refine wp_exit ?_
   refine then_exit ?_
   refine then_exit ?_
   refine block_hit ?_
   have bu := z.keep [(2, .pointer (some (⟨m, 0, none⟩ : Addr))), (3, .pointer (some (⟨b, 0, none⟩ : Addr)))] ⟨rfl, rfl, trivial⟩
   refine then_normal (wp_seq (wp_region_lit ?_))
   refine sqv bu rfl (r_loadN (cs := [.int .i64 p, .string (Bs q), .string (Bs r), Sl.v c, Sl.v x]) Try.underlying29 rfl ti_29 (bu.get rfl) (aQ.part 0 _ rfl)) fun _ hA406 => ?_
   refine sq (opk_store hA406 aP (r_store (vs := [.int .i64 p, .string (Bs q), .string (Bs r), Sl.v c, Sl.v x]) (hA406.get rfl) (hA406.get rfl) rfl ti_29 aP rfl (ones_all [.int .i64 p, .string (Bs q), .string (Bs r), Sl.v c, Sl.v x] rfl)) fun dT av bv du dv => ?_)
   have dx : Box av m 29 [.int .i64 p, .string (Bs q), .string (Bs r), Sl.v c, Sl.v x] := du
   have dU := aQ.keep bv (by simpa using aN.symm)
   have dy : Chg [m] ai av := bv
   refine sq_end ?_
   have bx := dv.keep [(2, .pointer (some (⟨m, 0, none⟩ : Addr)))] ⟨rfl, trivial⟩
   refine then_normal ?_
   refine wp_ret ?_
   have dz := dt av    dy
   exact res_all (vs := [.agg #[.int .i64 p, .string (Bs q), .string (Bs r), Sl.v c, Sl.v x]]) rfl bx ⟨res_of_cell bx rfl dx Try.underlying29 rfl ti_29, trivial⟩ dz
def law00_Place.vc (b : Int) (a : Int) (R : Value → World → Prop) (w : World) : Prop :=
(a ≠ 0) ∧
(((b.tmod a) < 0) →
(I64 ((b.tmod a) + a)) ∧
R (.int .i64 ((b.tmod a) + a)) w) ∧
((¬ ((b.tmod a) < 0)) →
R (.int .i64 (b.tmod a)) w)
theorem law00_Place.ok (b : Int) (a : Int) {R : Value → World → Prop} {w : World} (g : law00_Place.vc b a R w) : Calls Try.prog 28 #[.int .i64 b, .int .i64 a] w (Ret R) := by
 refine enter [.int .i64 b, .int .i64 a] Try.func28 rfl Try.ntmps28 rfl ?_
 intro a0 u
 unfold law00_Place.vc at g
 refine wp_seq (wp_region_lit ?_)
 refine sqv u rfl (r_assign rfl) fun _ v => ?_
 refine sq_end ?_
 have h := v.keep [(0, .int .i64 b), (1, .int .i64 a)] ⟨rfl, rfl, trivial⟩
 refine then_normal (wp_seq (wp_region_lit ?_))
 refine sqv h rfl (r_move (h.get rfl)) fun _ i => ?_
 refine sqv i rfl (r_move (i.get rfl)) fun _ d => ?_
 obtain ⟨x, j⟩ := g
 refine sqv d rfl (r_rem (d.get rfl) (d.get rfl) x) fun _ k => ?_
 refine sqv k rfl (r_assign (k.get rfl)) fun _ y => ?_
 refine sq_end ?_
 have l := y.keep [(1, .int .i64 a), (5, .int .i64 (b.tmod a))] ⟨rfl, rfl, trivial⟩
 refine then_normal (wp_seq (wp_seq (wp_region_lit ?_)))
 refine sqv l rfl (r_move (l.get rfl)) fun _ m => ?_
 refine sqv m rfl (r_lss (m.get rfl) rfl) fun _ z => ?_
 refine sq_end ?_
 have c := z.keep [(1, .int .i64 a), (5, .int .i64 (b.tmod a)), (10, .bool (decide ((b.tmod a) < 0)))] ⟨rfl, rfl, rfl, trivial⟩
 refine then_normal ?_
 refine wp_cond_split (c.get rfl) (fun hc => ?_) (fun hc => ?_)
 ·have aa := j.1 (of_decide_eq_true hc)
  clear hc
  refine wp_region_lit ?_
  refine sqv c rfl (r_move (c.get rfl)) fun _ n => ?_
  refine sqv n rfl (r_move (n.get rfl)) fun _ f => ?_
  obtain ⟨ab, ad⟩ := aa
  refine sqv f rfl (r_addI (f.get rfl) (f.get rfl) ab) fun _ o => ?_
  refine sqv o rfl (r_assign (o.get rfl)) fun _ af => ?_
  refine sq_end ?_
  have p := af.keep [(5, .int .i64 ((b.tmod a) + a))] ⟨rfl, trivial⟩
  refine then_normal (wp_seq (wp_region_lit ?_))
  refine sqv p rfl (r_move (p.get rfl)) fun _ q => ?_
  refine sqv q rfl (r_assign (q.get rfl)) fun _ ag => ?_
  refine sq_end ?_
  have r := ag.keep [(4, .int .i64 ((b.tmod a) + a))] ⟨rfl, trivial⟩
  refine then_normal ?_
  refine wp_ret ?_
  exact res_all (vs := [.int .i64 ((b.tmod a) + a)]) rfl r ⟨res_of_tmp r rfl, trivial⟩ ad
 ·have ah := j.2 (of_decide_eq_false hc)
  clear hc
  refine wp_skip ?_
  refine then_normal (wp_seq (wp_region_lit ?_))
  refine sqv c rfl (r_move (c.get rfl)) fun _ s => ?_
  refine sqv s rfl (r_assign (s.get rfl)) fun _ ai => ?_
  refine sq_end ?_
  have t := ai.keep [(4, .int .i64 (b.tmod a))] ⟨rfl, trivial⟩
  refine then_normal ?_
  refine wp_ret ?_
  exact res_all (vs := [.int .i64 (b.tmod a)]) rfl t ⟨res_of_tmp t rfl, trivial⟩ ah
def law00_Small.vc (c : Int) (d : Str) (f : Str) (g : Sl) (h : Sl) (R : Value → World → Prop) (w : World) : Prop :=
∀ (i : World) (b : Nat) (a : Nat), New w b i → New w a i → b ≠ a → Chg [] w i →
∀ (_ : Box i a 3 [.int .i64 0]),
CallK Try.prog 72 #[.agg #[.int .i64 c, .string (Bs d), .string (Bs f), Sl.v g, Sl.v h], .int .i64 0, .pointer (some (⟨a, 0, none⟩ : Addr))] i [b] (fun v n => ∃ (j : Bool), v = .bool j ∧
R (.bool j) n)
theorem law00_Small.ok (c : Int) (d : Str) (f : Str) (g : Sl) (h : Sl) {R : Value → World → Prop} {w : World} (o : law00_Small.vc c d f g h R w) : Calls Try.prog 42 #[.agg #[.int .i64 c, .string (Bs d), .string (Bs f), Sl.v g, Sl.v h]] w (Ret R) := by
 refine enter [.agg #[.int .i64 c, .string (Bs d), .string (Bs f), Sl.v g, Sl.v h]] Try.func42 rfl Try.ntmps42 rfl ?_
 intro a0 p
 unfold law00_Small.vc at o
 refine wp_seq (wp_region_lit ?_)
 refine sq (opk_new (fun B => .pointer (some ⟨B, 0, none⟩)) p rfl (r_box (cs := [.int .i64 c, .string (Bs d), .string (Bs f), Sl.v g, Sl.v h]) (p.get rfl) rfl) fun a4 q b ag ah r ai _ => ?_)
 have aj : New w b q := ah
 have s : Chg [] w q := ag
 refine sqv ai rfl (r_assign rfl) fun _ ak => ?_
 refine sq_end ?_
 have al := ak.keep [(1, .pointer (some (⟨b, 0, none⟩ : Addr)))] ⟨rfl, trivial⟩
 refine then_normal (wp_seq (wp_region_lit ?_))
 refine sq (opk_new (fun B => .pointer (some ⟨B, 0, none⟩)) al rfl (r_alloc (cs := [.int .i64 0]) ti_3 rfl) fun aH aI a l t u x _ => ?_)
 have y : b ≠ a := Nat.ne_of_lt (Nat.lt_of_lt_of_le r.lt t.ge)
 have z := New.of s t
 have am := r.ext l
 have an := s.more l
 have ao := aj.up l.size
 refine sq (opk_store x u (r_store (vs := [.int .i64 0]) (x.get rfl) rfl rfl ti_3 u rfl (ones_all [.int .i64 0] rfl)) fun aJ i k ap aq => ?_)
 have ar : Box i a 3 [.int .i64 0] := ap
 have aa := am.keep k (by simpa using y)
 have au := an.storeNew z k
 have av := ao.up k.size
 have ax := z.up k.size
 refine sq_end ?_
 have ab := aq.keep [(1, .pointer (some (⟨b, 0, none⟩ : Addr))), (3, .pointer (some (⟨a, 0, none⟩ : Addr)))] ⟨rfl, rfl, trivial⟩
 refine then_normal (wp_seq (wp_region_lit ?_))
 refine sqv ab rfl (r_loadN (cs := [.int .i64 c, .string (Bs d), .string (Bs f), Sl.v g, Sl.v h]) Try.underlying29 rfl ti_29 (ab.get rfl) (aa.part 0 _ rfl)) fun _ m => ?_
 have ay := o i b a av ax y au
 have az := ay ar
 refine sq (opk_call m rfl (r_call (args := #[.agg #[.int .i64 c, .string (Bs d), .string (Bs f), Sl.v g, Sl.v h], .int .i64 0, .pointer (some (⟨a, 0, none⟩ : Addr))]) Try.func72 (by decide) rfl (map_arr (ml_cons (m.get rfl) (ml_cons rfl (ml_cons (m.get rfl) ml_nil)))) rfl) az fun aK aL n ad _ aA aM aB => ?_)
 obtain ⟨j, rfl, aC⟩ := aB
 have aN := aa.kept aA (.head _)
 refine sqv ad rfl (r_assign (ad.get rfl)) fun _ aD => ?_
 refine sq_end ?_
 have af := aD.keep [(2, .bool j)] ⟨rfl, trivial⟩
 refine then_normal ?_
 refine wp_ret ?_
 exact res_all (vs := [.bool j]) rfl af ⟨res_of_tmp af rfl, trivial⟩ aC
end Go.Proofs.Ytghmgfkdnolcdaa
