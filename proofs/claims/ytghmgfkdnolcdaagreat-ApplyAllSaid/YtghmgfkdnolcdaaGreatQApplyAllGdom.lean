/-
  PRINTED BY PROGRAM: for each function its condition (vc), and that this suffices (ok).
-/
import Derived.Test.YtghmgfkdnolcdaaGreatQApplyAllGT
namespace Go.Proofs.YtghmgfkdnolcdaaGreat
open Go.RowKit
set_option linter.unusedVariables false
set_option maxHeartbeats 1000000
set_option maxRecDepth 10000
def dom_Dom_Tree.vc (a : Addr) (R : Value → World → Prop) (w : World) : Prop :=
∀ (b : World) (c : Nat), New w c b → Chg [] w b →
CallK Tryz.prog 28 #[.pointer (some a), .int .i64 0] b [c] (fun v k => ∃ (d : Int) (f : Str) (g : Str) (h : Sl) (i : Sl), v = .agg #[.int .i64 d, .string (Bs f), .string (Bs g), Sl.v h, Sl.v i] ∧
∀ (j : World), Chg [c] k j →
R (.agg #[.int .i64 d, .string (Bs f), .string (Bs g), Sl.v h, Sl.v i]) j)
theorem dom_Dom_Tree.ok (a : Addr) {R : Value → World → Prop} {w : World} (l : dom_Dom_Tree.vc a R w) : Calls Tryz.prog 20 #[.pointer (some a)] w (Ret R) := by
 refine go _ Tryz.func20 Tryz.ntmps20 l ?_
 refine gS <| gR <| na ti_25 fun b c => ge <| tn <| gS <| gR ?_
 refine gM <| gT1 ?_
 refine gC [0] Tryz.func28 fun _ k => gE fun d => gE fun f => gE fun g => gE fun h => gE fun i => gQ ?_
 refine wo 0 ti_25 fun j => ge <| tn <| gr <| gT0 ?_
 exact gzB 0 Tryz.underlying25 ti_25
def dom_New.vc (a : Int) (b : Str) (c : Str) (d : Sl) (f : Sl) (R : Value → World → Prop) (w : World) : Prop :=
∀ (j : World) (g : Nat), New w g j → Chg [] w j →
CallK Tryz.prog 59 #[.agg #[.int .i64 a, .string (Bs b), .string (Bs c), Sl.v d, Sl.v f]] j [g] (fun v l => ∃ (k : Bool), v = .bool k ∧
((k = false) →
R (.tuple #[.pointer none, .int .i64 1]) l) ∧
((k = true) →
RunK Tryz.prog (Instr.makeMap 81 none) l [g] (fun v m => ∃ (n : Option Nat), v = .map n ∧
∀ (h : World) (i : Nat), New m i h → Chg [] m h →
∀ (_ : Box h i 84 [Sl.v Sl.nil, .map n]),
CallK Tryz.prog 60 #[.pointer (some (⟨i, 0, none⟩ : Addr)), .agg #[.int .i64 a, .string (Bs b), .string (Bs c), Sl.v d, Sl.v f], .int .i64 (-1)] h [g] (fun v o => ∃ (p : Int), v = .int .i64 p ∧
R (.tuple #[.pointer (some (⟨i, 0, none⟩ : Addr)), .int .i64 0]) o))))
theorem dom_New.ok (a : Int) (b : Str) (c : Str) (d : Sl) (f : Sl) {R : Value → World → Prop} {w : World} (q : dom_New.vc a b c d f R w) : Calls Tryz.prog 27 #[.agg #[.int .i64 a, .string (Bs b), .string (Bs c), Sl.v d, Sl.v f]] w (Ret R) := by
 refine go _ Tryz.func27 Tryz.ntmps27 q ?_
 refine gS <| gR <| nb fun j g => ?_
 refine gN ?_
 refine gN <| ge <| tn <| gS <| gS <| gR ?_
 refine gBN 0 5 Tryz.underlying25 ti_25 <| gT1 ?_
 refine gC [0] Tryz.func59 fun _ l => gE fun k => gQ ?_
 refine g1 r_not <| ge <| tn ?_
 refine gi nT nF ?_ ?_
 ·refine gS <| gR <| gN ?_
  refine gN <| ge <| tn <| gr <| tr ?_
  exact gz2
 ·refine gk <| tn <| gS <| gR <| gR0 [0] r_makeMap fun _ m => gE fun n => gQ ?_
  refine gbu ti_84 Tryz.underlying84 pl_84 (OPs.of rfl) ?_
  refine nb fun h i => ?_
  refine gN <| ge <| tn <| gS <| gR ?_
  refine gM ?_
  refine gBN 1 5 Tryz.underlying25 ti_25 <| gT1 ?_
  refine gX 0 ?_
  refine gC [1] Tryz.func60 fun _ o => gE fun p => gQ <| ge <| tn <| gS <| gR ?_
  refine gM ?_
  refine gN ?_
  refine gN <| ge <| tn <| gr ?_
  exact gz2
def dom_Dom_tree.vc (ab : Addr) (ad : Int) (R : Value → World → Prop) (w : World) : Prop :=
∀ (w4 : World) (j : Nat), New w j w4 → Chg [] w w4 →
CallK Tryz.prog 61 #[.pointer (some ab), .int .i64 ad] w4 [j] (fun v w7 => ∃ (ah : Option Addr), v = .pointer ah ∧
∃ aq : Addr, (ah = some aq) ∧
∃ (ai : Int) (aj : Str) (ak : Str) (ar : Sl) (au : Sl), (Cells w7 (aq.add 2) [.int .i64 ai, .string (Bs aj), .string (Bs ak), Sl.v ar, Sl.v au]) ∧
∀ (al : World) (k : Nat), New w7 k al → Chg [] w7 al →
CallK Tryz.prog 62 #[Sl.v ar] al [j, k] (fun v aG => ∃ (am : Sl), v = Sl.v am ∧
∃ av : Addr, (ah = some av) ∧
∀ (an : World), Chg [k] aG an →
∃ (p : Sl), (an.cell? (av.add 7) = some (Sl.v p)) ∧
∃ (ax : Int → Sl → World → Prop) (aH : Int → Sl → World → Nat),
ax 0 au an ∧
(∀ (b : Int) (l : Sl) (q : World), ax b l q →
((b < (p.n : Int)) →
((0 : Int) ≤ b ∧ b < (p.n : Int)) ∧ ∃ ay : Addr, p.a = some ay ∧
∃ (az : Int), (q.cell? (ay.add (b.toNat * 1)) = some (.int .i64 az)) ∧
∀ (r : World), Chg [] q r →
∃ m : Int → Str → Str → Sl → Sl → World → Prop, (∀ c : Int, ∀ d : Str, ∀ f : Str, ∀ g : Sl, ∀ i : Sl, ∀ w' w'' : World, Ext w' w'' → m c d f g i w' → m c d f g i w'') ∧
(∀ w' : World, Ext r w' → Calls Tryz.prog 28 #[.pointer (some ab), .int .i64 az] w' (Ret fun v w'' => Ext w' w'' ∧ ∃ c : Int, ∃ d : Str, ∃ f : Str, ∃ g : Sl, ∃ i : Sl, v = .agg #[.int .i64 c, .string (Bs d), .string (Bs f), Sl.v g, Sl.v i] ∧ m c d f g i w'')) ∧
∀ (t : World) (u : Int) (x : Str) (y : Str) (z : Sl) (aa : Sl) (o : Nat), Ext r t → m u x y z aa t → r.heap.size ≤ o → Box t o 25 [.int .i64 u, .string (Bs x), .string (Bs y), Sl.v z, Sl.v aa] → 
∀ (_ : Box t o 25 [.int .i64 u, .string (Bs x), .string (Bs y), Sl.v z, Sl.v aa]),
RunK Tryz.prog (Builtin.append_ #[23, 23] 23 #[Sl.v l, Sl.v (Sl.mk (some ⟨o, 0, none⟩) 1 1)]) t [j, k] (fun v aI => ∃ (ao : Sl), v = Sl.v ao ∧
(I64 (b + 1)) ∧
∀ (ap : World), Chg [k] aI ap →
ax (b + 1) ao ap ∧ aH (b + 1) ao ap < aH b l q)) ∧
((¬ (b < (p.n : Int))) →
∀ (aA : World), Chg [j] q aA →
R (.agg #[.int .i64 ai, .string (Bs aj), .string (Bs ak), Sl.v am, Sl.v l]) aA))))
theorem dom_Dom_tree.ok (ab : Addr) (ad : Int) {R : Value → World → Prop} {w : World} (aJ : dom_Dom_tree.vc ab ad R w) : Calls Tryz.prog 28 #[.pointer (some ab), .int .i64 ad] w (Ret R) := by
 refine go _ Tryz.func28 Tryz.ntmps28 aJ ?_
 refine gS <| gR <| na ti_25 fun w4 j => ge <| tn <| gS <| gR ?_
 refine gM ?_
 refine gM <| gT1 ?_
 refine gC [0] Tryz.func61 fun _ w7 => gE fun ah => gQ ?_
 refine gN <| ge <| tn <| gS <| gR ?_
 refine gM ?_
 refine gnP fun aq => ?_
 refine gF 2 Tryz.underlying88 ti_25 ?_
 refine gE fun ai => gE fun aj => gE fun ak => gE fun ar => gE fun au => gLN Tryz.underlying25 ti_25 ?_
 refine na ti_25 fun aM k => ?_
 refine wn 0 0 ti_25 fun al => ge <| tn <| gS <| gR ?_
 refine gF 3 Tryz.underlying25 ti_22 ?_
 refine gB 0 tU22 <| gT1 ?_
 refine gC [1, 0] Tryz.func62 fun _ aG => gE fun am => gQ ?_
 refine gF 3 Tryz.underlying25 ti_22 ?_
 refine wo 0 ti_22 fun an => ge <| tn <| gS <| gS <| gR ?_
 refine gM ?_
 refine gnP fun av => ?_
 refine gF 7 Tryz.underlying88 ti_78 <| gT0 ?_
 refine gE fun p => gL tU78 ?_
 refine g1 (fun aK => r_len aK tU78) ?_
 refine gM <| ge <| tn <| gb <| gE fun _ => gE fun mu => ?_
 refine l2 mu (fun b _ => [(25, .int .i64 b)]) [(0, _), (4, _), (6, _), (23, _), (24, _)] (fun _ l => [(k, 25, [.int .i64 ai, .string (Bs aj), .string (Bs ak), Sl.v am, Sl.v l])]) [(j, _, _)] [0, 1] fun b l q _ => gS <| gR ?_
 refine g2 r_lss <| ge <| tn <| gS ?_
 refine gi dT dF ?_ ?_
 ·refine gk <| tn <| gS <| gb <| gS <| gR <| gI1 tU78 ti_3 fun ay => ?_
  refine gE fun az => gL tU3 ?_
  refine gN <| ge <| tn ?_
  refine gD fun r => gT0 <| gE fun m => gA fun aB => gA fun aL => ?_
  refine gW 0 6 [(4, ⟨Int × Str × Str × Sl × Sl, default, fun s => .agg #[.int .i64 s.1, .string (Bs s.2.1), .string (Bs s.2.2.1), Sl.v s.2.2.2.1, Sl.v s.2.2.2.2], fun s w => m s.1 s.2.1 s.2.2.1 s.2.2.2.1 s.2.2.2.2 w, fun s => aB s.1 s.2.1 s.2.2.1 s.2.2.2.1 s.2.2.2.2⟩), (5, ⟨Int × Str × Str × Sl × Sl × Nat, default, fun s => (fun B => .slice (some ⟨B, 0, none⟩) 1 1) s.2.2.2.2.2, fun s w' => m s.1 s.2.1 s.2.2.1 s.2.2.2.1 s.2.2.2.2.1 w' ∧ r.heap.size ≤ s.2.2.2.2.2 ∧ Box w' s.2.2.2.2.2 25 [.int .i64 s.1, .string (Bs s.2.1), .string (Bs s.2.2.1), Sl.v s.2.2.2.1, Sl.v s.2.2.2.2.1], fun s w' w'' hE h => ⟨(aB s.1 s.2.1 s.2.2.1 s.2.2.2.1 s.2.2.2.2.1 w' w'' hE h.1), h.2.1, h.2.2.ext hE⟩⟩)] ?_
  refine gF 4 Tryz.underlying25 ti_23 ?_
  refine gB 0 tU23 ?_
  refine gM ?_
  refine gM ?_
  refine yc rfl Tryz.func28 (fun w' hE _ => aL w' hE) (fun _ _ ⟨c, d, f, g, i, h1, h2⟩ => ⟨(c, d, f, g, i), h1, h2⟩) fun ⟨c, d, f, g, i⟩ => ?_
  refine yn (fun B => .slice (some ⟨B, 0, none⟩) 1 1) (cs := [.int .i64 c, .string (Bs d), .string (Bs f), Sl.v g, Sl.v i]) rfl (fun _ hA _ => r_buildSlice ((OPs.of rfl : OPs _ true _ _).map hA rfl) tU23 ti_25 rfl rfl (by kernel_rfl)) (fun _ _ B _ hF hA' h1 h2 => ⟨(c, d, f, g, i, B), rfl, (aB c d f g i _ _ hA' (hF.1 (by kernel_rfl))), h1, h2⟩) fun ⟨u, x, y, z, aa, o⟩ => ?_
  refine eB (B := o) (T := 25) (cs := [.int .i64 u, .string (Bs x), .string (Bs y), Sl.v z, Sl.v aa]) (fun _ hF => ⟨hF.1.2.1, hF.1.2.2⟩) (fun v w' hE hF => v w' u x y z aa o hE hF.1.1 hF.1.2.1 hF.1.2.2) fun t => ?_
  refine gO 6 ?_
  refine gX 0 ?_
  refine gR2 [2, 1] r_append fun _ aI => gE fun ao => gQ <| geO ?_
  refine gW 7 1 [] ?_
  refine gF 4 Tryz.underlying25 ti_23 <| geT fun aN => ?_
  refine gO 8 ?_
  refine wo 1 ti_23 fun ap => geO ?_
  refine gZ <| bn <| tn <| gR ?_
  refine g2s r_addI ?_
  refine gM <| ge <| gT0 ?_
  exact k2 [1, 0]
 ·refine gx <| te <| te <| bh <| tn <| gS <| gR <| gBN 0 5 Tryz.underlying25 ti_25 ?_
  refine wo 1 ti_25 fun aA => ge <| tn <| gr <| gT0 ?_
  exact gzB 1 Tryz.underlying25 ti_25
def dom_Dom_Insert.vc (i : Addr) (c : Int) (j : Int) (d : Int) (p : Int) (r : Str) (s : Str) (k : Sl) (f : Sl) (R : Value → World → Prop) (w : World) : Prop :=
∀ (w7 : World) (l : Nat), New w l w7 → Chg [] w w7 →
CallK Tryz.prog 61 #[.pointer (some i), .int .i64 j] w7 [l] (fun v a5 => ∃ (m : Option Addr), v = .pointer m ∧
CallK Tryz.prog 63 #[.pointer (some i), .int .i64 c] a5 [l] (fun v ad => ∃ (q : Bool), v = .bool q ∧
∃ aj : Bool → World → Prop,
(((((q = true) ∨ (c < 1)) ∨ (1048576 < c)) →
aj ((q || (decide (c < 1))) || (decide (1048576 < c))) ad) ∧
((((q = false) ∧ (¬ (c < 1))) ∧ (¬ (1048576 < c))) →
∀ (u : World), Chg [] ad u →
∀ (t : Nat) (_ : ad.heap.size ≤ t) (_ : (((¬ (0 < (f.n : Int))) ∧ (¬ (0 < (k.n : Int))))) → Box u t 25 [.int .i64 p, .string (Bs r), .string (Bs s), Sl.v k, Sl.v f]),
∃ (af : Bool), ((((¬ (0 < (f.n : Int))) ∧ (¬ (0 < (k.n : Int))))) → Calls Tryz.prog 59 #[.agg #[.int .i64 1, .string (Bs []), .string (Bs []), Sl.v Sl.nil, Sl.v (Sl.mk (some ⟨t, 0, none⟩) 1 1)]] u (Ret fun v w' => Ext u w' ∧ v = .bool af)) ∧
(∀ ak : World, Ext u ak →
aj (((decide (0 < (f.n : Int))) || (decide (0 < (k.n : Int)))) || (!af)) ak))) ∧
(∀ (x : Bool) (y : World), aj x y →
((x = true) →
R (.int .i64 1) y) ∧
((x = false) →
∃ (al : Sl), (y.cell? (i.add 0) = some (Sl.v al)) ∧
((300 ≤ (al.n : Int)) →
R (.int .i64 2) y) ∧
((¬ (300 ≤ (al.n : Int))) →
(((Option.isNone m) = true) →
R (.int .i64 3) y) ∧
(((Option.isNone m) = false) →
CallK Tryz.prog 64 #[.pointer m, .int .i64 p] y [l] (fun v am => ∃ (an : Bool), v = .bool an ∧
((an = false) →
R (.int .i64 4) am) ∧
((an = true) →
∃ aK : Addr, (((¬ (d < 0))) → m = some aK) ∧
∃ (ao : Sl), (((¬ (d < 0))) → am.cell? (aK.add 7) = some (Sl.v ao)) ∧
(((d < 0) ∨ ((ao.n : Int) < d)) →
R (.int .i64 5) am) ∧
(((¬ (d < 0)) ∧ (¬ ((ao.n : Int) < d))) →
CallK Tryz.prog 65 #[.pointer (some i), .int .i64 j] am [l] (fun v aL => ∃ (ap : Int), v = .int .i64 ap ∧
((60 ≤ ap) →
R (.int .i64 2) aL) ∧
((¬ (60 ≤ ap)) →
CallK Tryz.prog 66 #[.pointer (some i), .int .i64 c, .int .i64 j, .agg #[.int .i64 p, .string (Bs r), .string (Bs s), Sl.v k, Sl.v f]] aL [l] (fun v a6 => v = .tuple #[] ∧
CallK Tryz.prog 61 #[.pointer (some i), .int .i64 j] a6 [] (fun v ag => ∃ (aq : Option Addr), v = .pointer aq ∧
∃ aM : Addr, (aq = some aM) ∧
∃ (av : Sl), (ag.cell? (aM.add 7) = some (Sl.v av)) ∧
∀ (z : World) (ab : Nat), New ag ab z → Chg [] ag z →
∀ (_ : Box z ab 3 [.int .i64 c]),
CallK Tryz.prog 67 #[Sl.v av, .int .i64 d, Sl.v (Sl.mk (some ⟨ab, 0, none⟩) 1 1)] z [] (fun v aN => ∃ (ax : Sl), v = Sl.v ax ∧
∃ aO : Addr, (aq = some aO) ∧
∃ (ah ay : Nat) (aP : TypeId) (az : List Value), (aO.add 7) = ⟨ah, ay, none⟩ ∧ Box aN ah aP az ∧ ay + 1 ≤ az.length ∧ (∀ b ∈ [], b ≠ ah) ∧
(∀ ar : World, Chg [ah] aN ar → Box ar ah aP (putAt az ay [Sl.v ax]) →
R (.int .i64 0) ar)))))))))))))))
theorem dom_Dom_Insert.ok (i : Addr) (c : Int) (j : Int) (d : Int) (p : Int) (r : Str) (s : Str) (k : Sl) (f : Sl) {R : Value → World → Prop} {w : World} (a7 : dom_Dom_Insert.vc i c j d p r s k f R w) : Calls Tryz.prog 32 #[.pointer (some i), .int .i64 c, .int .i64 j, .int .i64 d, .agg #[.int .i64 p, .string (Bs r), .string (Bs s), Sl.v k, Sl.v f]] w (Ret R) := by
 refine enter [.pointer (some i), .int .i64 c, .int .i64 j, .int .i64 d, .agg #[.int .i64 p, .string (Bs r), .string (Bs s), Sl.v k, Sl.v f]] Tryz.func32 rfl Tryz.ntmps32 rfl ?_
 intro a0 hA0
 unfold dom_Dom_Insert.vc at a7
 refine wp_seq (wp_region_lit ?_)
 refine sq (opk_new (fun B => .pointer (some ⟨B, 0, none⟩)) hA0 rfl (r_box (cs := [.int .i64 p, .string (Bs r), .string (Bs s), Sl.v k, Sl.v f]) (hA0.get rfl) rfl) fun a8 w7 l cL cM cN cO _ => ?_)
 have cP : New w l w7 := cM
 have cQ : Chg [] w w7 := cL
 refine sqv cO rfl (r_assign rfl) fun _ cR => sq_end ?_
 have a9 := cR.kp [(0, .pointer (some i)), (1, .int .i64 c), (2, .int .i64 j), (3, .int .i64 d), (9, pB l 0)] rfl
 refine then_normal (wp_seq (wp_region_lit ?_))
 refine sqv a9 rfl (r_move (a9.get rfl)) fun _ ba => sqv ba rfl (r_move (ba.get rfl)) fun _ aQ => ?_
 have cS := a7 w7 l cP  cQ
 refine sq (opk_call aQ rfl (r_call (args := #[.pointer (some i), .int .i64 j]) Tryz.func61 (by decide) rfl (map_arr (ml_cons (aQ.get rfl) (ml_cons (aQ.get rfl) ml_nil))) rfl) cS fun fy fz a5 bb _ cT fA cU => ?_)
 obtain ⟨m, rfl, cX⟩ := cU
 have cY := cN.kept cT (.head _)
 refine sqv bb rfl (r_assign (bb.get rfl)) fun _ cZ => sq_end ?_
 have bd := cZ.kp [(0, .pointer (some i)), (1, .int .i64 c), (2, .int .i64 j), (3, .int .i64 d), (9, pB l 0), (11, .pointer m)] rfl
 refine then_normal (wp_seq (wp_block (wp_seq (wp_seq (wp_region_lit ?_)))))
 refine sqv bd rfl (r_move (bd.get rfl)) fun _ bf => sqv bf rfl (r_move (bf.get rfl)) fun _ aR => ?_
 refine sq (opk_call aR rfl (r_call (args := #[.pointer (some i), .int .i64 c]) Tryz.func63 (by decide) rfl (map_arr (ml_cons (aR.get rfl) (ml_cons (aR.get rfl) ml_nil))) rfl) cX fun fB fC ad bg _ c0 fD c1 => ?_)
 obtain ⟨q, rfl, c2⟩ := c1
 have ai := cY.kept c0 (.head _)
 refine sqv bg rfl (r_move (bg.get rfl)) fun _ bi => ?_
 refine sq (opk_gval bi rfl rfl (g := true) (e := q) rfl (fun hg => r_move (bi.get rfl)) fun fF bj _ => ?_)
 refine sq (opk_gval bj rfl rfl (g := true) (e := q) rfl (fun hg => r_lss (cv_get (bj.get rfl) hg) rfl) fun fG aS _ => ?_)
 refine sqv aS rfl (r_pick_or (g := (true && (q == false))) (aS.get rfl) (aS.get rfl) (fun he => g_mkf rfl he)) fun _ bk => sqv bk rfl (r_move (bk.get rfl)) fun _ bl => ?_
 refine sq (opk_gval bl rfl rfl (g := true) (e := (q || (decide (c < 1)))) rfl (fun hg => r_move (bl.get rfl)) fun fH bo _ => ?_)
 refine sq (opk_gval bo rfl rfl (g := true) (e := (q || (decide (c < 1)))) rfl (fun hg => r_gtr (cv_get (bo.get rfl) hg) rfl) fun fI aU _ => ?_)
 refine sqv aU rfl (r_pick_or (g := (true && ((q || (decide (c < 1))) == false))) (aU.get rfl) (aU.get rfl) (fun he => g_mkf rfl he)) fun _ bp => sqv bp rfl (r_assign (bp.get rfl)) fun _ c3 => sq_end ?_
 have aA := c3.kp [(0, .pointer (some i)), (1, .int .i64 c), (2, .int .i64 j), (3, .int .i64 d), (9, pB l 0), (11, .pointer m), (15, .bool ((q || (decide (c < 1))) || (decide (1048576 < c))))] rfl
 refine then_normal ?_
 obtain ⟨aj, bq, c4⟩ := c2
 refine wp_meet (fun a w => ∃ x : Bool, Ag 96 a [(0, .pointer (some i)), (1, .int .i64 c), (2, .int .i64 j), (3, .int .i64 d), (9, pB l 0), (11, .pointer m), (15, .bool x)] ∧ Box w l 25 [.int .i64 p, .string (Bs r), .string (Bs s), Sl.v k, Sl.v f] ∧ aj x w) ?_ ?_
 ·refine wp_cond_split (aA.get rfl) (fun hc => ?_) (fun hc => ?_)
  ·have c5 := bq.1 ((b_or_t hc).imp (fun h => ((b_or_t h).imp (fun h => h) (fun h => (of_decide_eq_true h)))) (fun h => (of_decide_eq_true h)))
   clear hc
   refine wp_skip ?_
   have c6 := aA.kp [(0, .pointer (some i)), (1, .int .i64 c), (2, .int .i64 j), (3, .int .i64 d), (9, pB l 0), (11, .pointer m), (15, .bool ((q || (decide (c < 1))) || (decide (1048576 < c))))] rfl
   exact then_normal ⟨((q || (decide (c < 1))) || (decide (1048576 < c))), c6, ai, c5⟩
  ·have c7 := bq.2 ⟨⟨(b_or_f (b_or_f hc).1).1, (of_decide_eq_false (b_or_f (b_or_f hc).1).2)⟩, (of_decide_eq_false (b_or_f hc).2)⟩
   clear hc
   refine wp_region_lit ?_
   refine sqv aA rfl (r_fieldAddr (aA.get rfl) Tryz.underlying25 rfl ti_23 (by decide)) fun _ bs => sqv bs rfl (r_load1 tU23 rfl (bs.get rfl) (ai.cell 4 _ rfl)) fun _ bt => sqv bt rfl (r_len (bt.get rfl) tU23) fun _ bu => sqv bu rfl (r_gtr (bu.get rfl) rfl) fun _ bv => sqv bv rfl (r_move (bv.get rfl)) fun _ bx => ?_
   refine sq (opk_gval bx rfl rfl (g := true) (e := (decide (0 < (f.n : Int)))) rfl (fun hg => r_fieldAddr (bx.get rfl) Tryz.underlying25 rfl ti_22 (by decide)) fun fJ bz _ => ?_)
   refine sq (opk_gval bz rfl rfl (g := true) (e := (decide (0 < (f.n : Int)))) rfl (fun hg => r_load1 tU22 rfl (cv_get (bz.get rfl) hg) (ai.cell 3 _ rfl)) fun fK bA _ => ?_)
   refine sq (opk_gval bA rfl rfl (g := true) (e := (decide (0 < (f.n : Int)))) rfl (fun hg => r_len (cv_get (bA.get rfl) hg) tU22) fun fL bB _ => ?_)
   refine sq (opk_gval bB rfl rfl (g := true) (e := (decide (0 < (f.n : Int)))) rfl (fun hg => r_gtr (cv_get (bB.get rfl) hg) rfl) fun fM aV _ => ?_)
   refine sqv aV rfl (r_pick_or (g := (true && ((decide (0 < (f.n : Int))) == false))) (aV.get rfl) (aV.get rfl) (fun he => g_mkf rfl he)) fun _ bC => sqv bC rfl (r_move (bC.get rfl)) fun _ bD => ?_
   refine sq (opk_gval bD rfl rfl (g := true) (e := ((decide (0 < (f.n : Int))) || (decide (0 < (k.n : Int))))) rfl (fun hg => r_loadN (cs := [.int .i64 p, .string (Bs r), .string (Bs s), Sl.v k, Sl.v f]) Tryz.underlying25 rfl ti_25 (bD.get rfl) (ai.part 0 _ rfl)) fun fN bF _ => ?_)
   refine sq (opk_gnew2 (fun B => .slice (some ⟨B, 0, none⟩) 1 1) bF rfl rfl (g := true) (e := ((decide (0 < (f.n : Int))) || (decide (0 < (k.n : Int))))) rfl (fun hg => r_buildSlice (vs := #[(0, .agg #[.int .i64 p, .string (Bs r), .string (Bs s), Sl.v k, Sl.v f])]) (cs := [.int .i64 p, .string (Bs r), .string (Bs s), Sl.v k, Sl.v f]) (map_arr2 (ml2_cons (cv_get (bF.get rfl) hg) (ml2_nil))) tU23 ti_25 rfl rfl (by kernel_rfl)) fun fO u t bG bH c8 bI _ => ?_)
   have c9 := fun hg => (c8 hg).2
   have fP : l ≠ t := Nat.ne_of_lt (Nat.lt_of_lt_of_le ai.lt bH)
   have da : ad.heap.size ≤ t := bH
   have db := ai.ext bG
   have dc : Chg [] ad u := bG
   refine sq (opk_gval bI rfl rfl (g := true) (e := ((decide (0 < (f.n : Int))) || (decide (0 < (k.n : Int))))) rfl (fun hg => r_build (vs := #[(0, .int .i64 1), (4, Sl.v (Sl.mk (some ⟨t, 0, none⟩) 1 1))]) (cells := #[.int .i64 1, .string (Bs []), .string (Bs []), Sl.v Sl.nil, Sl.v (Sl.mk (some ⟨t, 0, none⟩) 1 1)]) (map_arr2 (ml2_cons rfl (ml2_cons (cv_get (bI.get rfl) hg) (ml2_nil)))) ti_25 Tryz.underlying25 pl_25 (by kernel_rfl)) fun fQ bJ _ => ?_)
   have dd := c7 u    dc
   have df := dd t da (fun hp => c9 ((g_mkf rfl (b_or_mkf ⟨(decide_eq_false hp.1), (decide_eq_false hp.2)⟩))))
   obtain ⟨af, dg, dh⟩ := df
   refine sq (opk_gcall bJ rfl rfl (g := true) (e := ((decide (0 < (f.n : Int))) || (decide (0 < (k.n : Int))))) rfl (fun hg => r_call (args := #[.agg #[.int .i64 1, .string (Bs []), .string (Bs []), Sl.v Sl.nil, Sl.v (Sl.mk (some ⟨t, 0, none⟩) 1 1)]]) Tryz.func59 (by decide) rfl (map_arr (ml_cons (cv_get (bJ.get rfl) hg) ml_nil)) rfl) (fun hg => dg ⟨(of_decide_eq_false (b_or_f (g_f hg)).1), (of_decide_eq_false (b_or_f (g_f hg)).2)⟩) fun fR ak bK _ aX => ?_)
   have di := db.ext aX
   have fS : Chg [] u ak := aX
   have dj := dh ak aX
   refine sq (opk_gval bK rfl rfl (g := true) (e := ((decide (0 < (f.n : Int))) || (decide (0 < (k.n : Int))))) rfl (fun hg => r_not (cv_get (bK.get rfl) hg)) fun fT aY _ => ?_)
   refine sqv aY rfl (r_pick_or (g := (true && (((decide (0 < (f.n : Int))) || (decide (0 < (k.n : Int)))) == false))) (aY.get rfl) (aY.get rfl) (fun he => g_mkf rfl he)) fun _ bL => sqv bL rfl (r_assign (bL.get rfl)) fun _ dk => sq_end ?_
   have dl := dk.kp [(0, .pointer (some i)), (1, .int .i64 c), (2, .int .i64 j), (3, .int .i64 d), (9, pB l 0), (11, .pointer m), (15, .bool (((decide (0 < (f.n : Int))) || (decide (0 < (k.n : Int)))) || (!af)))] rfl
   have dm := dl.kp [(0, .pointer (some i)), (1, .int .i64 c), (2, .int .i64 j), (3, .int .i64 d), (9, pB l 0), (11, .pointer m), (15, .bool (((decide (0 < (f.n : Int))) || (decide (0 < (k.n : Int)))) || (!af)))] rfl
   exact then_normal ⟨(((decide (0 < (f.n : Int))) || (decide (0 < (k.n : Int)))) || (!af)), dm, di, dj⟩
 ·intro fU y hm
  obtain ⟨x, aB, bM, dn⟩ := hm
  have bN := c4 x y dn
  refine then_normal ?_
  refine wp_cond_split (aB.get rfl) (fun hc => ?_) (fun hc => ?_)
  ·have dp := bN.1 hc
   clear hc
   refine wp_seq (wp_region_lit ?_)
   refine sqv aB rfl (r_assign rfl) fun _ dq => sq_end ?_
   have bO := dq.kp [(10, .int .i64 1)] rfl
   refine then_normal ?_
   refine wp_ret ?_
   refine block_ret ?_
   refine then_ret ?_
   exact res_all (vs := [.int .i64 1]) rfl bO ⟨res_of_tmp bO rfl, trivial⟩ dp
  ·have dr := bN.2 hc
   clear hc
   refine wp_seq (wp_region_lit ?_)
   refine sqv aB rfl (r_move (aB.get rfl)) fun _ bP => sqv bP rfl (r_nilCheck (bP.get rfl)) fun _ bQ => sqv bQ rfl (r_fieldAddr (bQ.get rfl) Tryz.underlying84 rfl ti_82 (by decide)) fun _ bR => ?_
   obtain ⟨al, ds, bS⟩ := dr
   refine sqv bR rfl (r_load1 tU82 rfl (bR.get rfl) ds) fun _ bT => sqv bT rfl (r_len (bT.get rfl) tU82) fun _ bU => sqv bU rfl (r_geq (bU.get rfl) rfl) fun _ bV => sqv bV rfl (r_assign (bV.get rfl)) fun _ dt => sq_end ?_
   have aC := dt.kp [(0, .pointer (some i)), (1, .int .i64 c), (2, .int .i64 j), (3, .int .i64 d), (9, pB l 0), (11, .pointer m), (44, .bool (decide (300 ≤ (al.n : Int))))] rfl
   refine then_normal ?_
   refine wp_cond_split (aC.get rfl) (fun hc => ?_) (fun hc => ?_)
   ·have du := bS.1 (of_decide_eq_true hc)
    clear hc
    refine wp_seq (wp_region_lit ?_)
    refine sqv aC rfl (r_assign rfl) fun _ dv => sq_end ?_
    have bX := dv.kp [(10, .int .i64 2)] rfl
    refine then_normal ?_
    refine wp_ret ?_
    refine block_ret ?_
    refine then_ret ?_
    exact res_all (vs := [.int .i64 2]) rfl bX ⟨res_of_tmp bX rfl, trivial⟩ du
   ·have bY := bS.2 (of_decide_eq_false hc)
    clear hc
    refine wp_seq (wp_region_lit ?_)
    refine sqv aC rfl (r_move (aC.get rfl)) fun _ bZ => sqv bZ rfl (r_pnil (o := m) (bZ.get rfl) rfl tU85) fun _ b0 => sqv b0 rfl (r_assign (b0.get rfl)) fun _ dx => sq_end ?_
    have aD := dx.kp [(0, .pointer (some i)), (1, .int .i64 c), (2, .int .i64 j), (3, .int .i64 d), (9, pB l 0), (11, .pointer m), (51, .bool (Option.isNone m))] rfl
    refine then_normal ?_
    refine wp_cond_split (aD.get rfl) (fun hc => ?_) (fun hc => ?_)
    ·have dy := bY.1 hc
     clear hc
     refine wp_seq (wp_region_lit ?_)
     refine sqv aD rfl (r_assign rfl) fun _ dz => sq_end ?_
     have b1 := dz.kp [(10, .int .i64 3)] rfl
     refine then_normal ?_
     refine wp_ret ?_
     refine block_ret ?_
     refine then_ret ?_
     exact res_all (vs := [.int .i64 3]) rfl b1 ⟨res_of_tmp b1 rfl, trivial⟩ dy
    ·have dA := bY.2 hc
     clear hc
     refine wp_seq (wp_region_lit ?_)
     refine sqv aD rfl (r_move (aD.get rfl)) fun _ b2 => sqv b2 rfl (r_fieldAddr (b2.get rfl) Tryz.underlying25 rfl ti_3 (by decide)) fun _ b3 => sqv b3 rfl (r_load1 tU3 rfl (b3.get rfl) (bM.cell 0 _ rfl)) fun _ aZ => ?_
     refine sq (opk_call aZ rfl (r_call (args := #[.pointer m, .int .i64 p]) Tryz.func64 (by decide) rfl (map_arr (ml_cons (aZ.get rfl) (ml_cons (aZ.get rfl) ml_nil))) rfl) dA fun fV fX am b4 _ dB fY dC => ?_)
     obtain ⟨an, rfl, b5⟩ := dC
     have dD := bM.kept dB (.head _)
     refine sqv b4 rfl (r_not (b4.get rfl)) fun _ b6 => sqv b6 rfl (r_assign (b6.get rfl)) fun _ dG => sq_end ?_
     have aG := dG.kp [(0, .pointer (some i)), (1, .int .i64 c), (2, .int .i64 j), (3, .int .i64 d), (9, pB l 0), (11, .pointer m), (54, .bool (!an))] rfl
     refine then_normal ?_
     refine wp_cond_split (aG.get rfl) (fun hc => ?_) (fun hc => ?_)
     ·have dH := b5.1 (b_not_t hc)
      clear hc
      refine wp_seq (wp_region_lit ?_)
      refine sqv aG rfl (r_assign rfl) fun _ dI => sq_end ?_
      have b7 := dI.kp [(10, .int .i64 4)] rfl
      refine then_normal ?_
      refine wp_ret ?_
      refine block_ret ?_
      refine then_ret ?_
      exact res_all (vs := [.int .i64 4]) rfl b7 ⟨res_of_tmp b7 rfl, trivial⟩ dH
     ·have dJ := b5.2 (b_not_f hc)
      clear hc
      refine wp_seq (wp_region_lit ?_)
      refine sqv aG rfl (r_move (aG.get rfl)) fun _ b8 => sqv b8 rfl (r_lss (b8.get rfl) rfl) fun _ b9 => sqv b9 rfl (r_move (b9.get rfl)) fun _ ca => ?_
      refine sq (opk_gval ca rfl rfl (g := true) (e := (decide (d < 0))) rfl (fun hg => r_move (ca.get rfl)) fun fZ cb _ => ?_)
      refine sq (opk_gval cb rfl rfl (g := true) (e := (decide (d < 0))) rfl (fun hg => r_move (cb.get rfl)) fun f0 cc _ => ?_)
      obtain ⟨aK, dK, dL⟩ := dJ
      refine sq (opk_gval cc rfl rfl (g := true) (e := (decide (d < 0))) rfl (fun hg => r_nilCheckP (((cv_get (cc.get rfl) hg)).trans (congrArg Value.pointer (dK (of_decide_eq_false (g_f hg)))))) fun f1 cd _ => ?_)
      refine sq (opk_gval cd rfl rfl (g := true) (e := (decide (d < 0))) rfl (fun hg => r_fieldAddr (cv_get (cd.get rfl) hg) Tryz.underlying88 rfl ti_78 (by decide)) fun f2 cf _ => ?_)
      obtain ⟨ao, dM, cg⟩ := dL
      refine sq (opk_gval cf rfl rfl (g := true) (e := (decide (d < 0))) rfl (fun hg => r_load1 tU78 rfl (cv_get (cf.get rfl) hg) (dM (of_decide_eq_false (g_f hg)))) fun f3 ch _ => ?_)
      refine sq (opk_gval ch rfl rfl (g := true) (e := (decide (d < 0))) rfl (fun hg => r_len (cv_get (ch.get rfl) hg) tU78) fun f4 hA205 _ => ?_)
      refine sq (opk_gval hA205 rfl rfl (g := true) (e := (decide (d < 0))) rfl (fun hg => r_gtr (cv_get (hA205.get rfl) hg) (cv_get (hA205.get rfl) hg)) fun f5 a1 _ => ?_)
      refine sqv a1 rfl (r_pick_or (g := (true && ((decide (d < 0)) == false))) (a1.get rfl) (a1.get rfl) (fun he => g_mkf rfl he)) fun _ ci => sqv ci rfl (r_assign (ci.get rfl)) fun _ dN => sq_end ?_
      have aH := dN.kp [(0, .pointer (some i)), (1, .int .i64 c), (2, .int .i64 j), (3, .int .i64 d), (9, pB l 0), (60, .bool ((decide (d < 0)) || (decide ((ao.n : Int) < d))))] rfl
      refine then_normal ?_
      refine wp_cond_split (aH.get rfl) (fun hc => ?_) (fun hc => ?_)
      ·have dO := cg.1 ((b_or_t hc).imp (fun h => (of_decide_eq_true h)) (fun h => (of_decide_eq_true h)))
       clear hc
       refine wp_seq (wp_region_lit ?_)
       refine sqv aH rfl (r_assign rfl) fun _ dP => sq_end ?_
       have cj := dP.kp [(10, .int .i64 5)] rfl
       refine then_normal ?_
       refine wp_ret ?_
       refine block_ret ?_
       refine then_ret ?_
       exact res_all (vs := [.int .i64 5]) rfl cj ⟨res_of_tmp cj rfl, trivial⟩ dO
      ·have dQ := cg.2 ⟨(of_decide_eq_false (b_or_f hc).1), (of_decide_eq_false (b_or_f hc).2)⟩
       clear hc
       refine wp_seq (wp_region_lit ?_)
       refine sqv aH rfl (r_move (aH.get rfl)) fun _ ck => sqv ck rfl (r_move (ck.get rfl)) fun _ a2 => ?_
       refine sq (opk_call a2 rfl (r_call (args := #[.pointer (some i), .int .i64 j]) Tryz.func65 (by decide) rfl (map_arr (ml_cons (a2.get rfl) (ml_cons (a2.get rfl) ml_nil))) rfl) dQ fun f6 f7 aL cl _ dR f8 dS => ?_)
       obtain ⟨ap, rfl, cm⟩ := dS
       have cn := dD.kept dR (.head _)
       refine sqv cl rfl (r_geq (cl.get rfl) rfl) fun _ co => sqv co rfl (r_assign (co.get rfl)) fun _ dU => sq_end ?_
       have aI := dU.kp [(0, .pointer (some i)), (1, .int .i64 c), (2, .int .i64 j), (3, .int .i64 d), (9, pB l 0), (72, .bool (decide (60 ≤ ap)))] rfl
       refine then_normal ?_
       refine wp_cond_split (aI.get rfl) (fun hc => ?_) (fun hc => ?_)
       ·have dV := cm.1 (of_decide_eq_true hc)
        clear hc
        refine wp_seq (wp_region_lit ?_)
        refine sqv aI rfl (r_assign rfl) fun _ dX => sq_end ?_
        have cp := dX.kp [(10, .int .i64 2)] rfl
        refine then_normal ?_
        refine wp_ret ?_
        refine block_ret ?_
        refine then_ret ?_
        exact res_all (vs := [.int .i64 2]) rfl cp ⟨res_of_tmp cp rfl, trivial⟩ dV
       ·have dY := cm.2 (of_decide_eq_false hc)
        clear hc
        refine wp_skip ?_
        refine block_normal ?_
        refine then_normal (wp_seq (wp_region_lit ?_))
        refine sqv aI rfl (r_move (aI.get rfl)) fun _ cq => sqv cq rfl (r_move (cq.get rfl)) fun _ cr => sqv cr rfl (r_move (cr.get rfl)) fun _ ct => sqv ct rfl (r_loadN (cs := [.int .i64 p, .string (Bs r), .string (Bs s), Sl.v k, Sl.v f]) Tryz.underlying25 rfl ti_25 (ct.get rfl) (cn.part 0 _ rfl)) fun _ au => ?_
        refine sq (opk_call au rfl (r_call (args := #[.pointer (some i), .int .i64 c, .int .i64 j, .agg #[.int .i64 p, .string (Bs r), .string (Bs s), Sl.v k, Sl.v f]]) Tryz.func66 (by decide) rfl (map_arr (ml_cons (au.get rfl) (ml_cons (au.get rfl) (ml_cons (au.get rfl) (ml_cons (au.get rfl) ml_nil))))) rfl) dY fun f9 ga a6 dZ _ d0 gc d1 => ?_)
        obtain ⟨rfl, d2⟩ := d1
        have gd := cn.kept d0 (.head _)
        refine sq_end ?_
        have cu := dZ.kp [(0, .pointer (some i)), (1, .int .i64 c), (2, .int .i64 j), (3, .int .i64 d)] rfl
        refine then_normal (wp_seq (wp_region_lit ?_))
        refine sqv cu rfl (r_move (cu.get rfl)) fun _ cv => sqv cv rfl (r_move (cv.get rfl)) fun _ a3 => ?_
        refine sq (opk_call a3 rfl (r_call (args := #[.pointer (some i), .int .i64 j]) Tryz.func61 (by decide) rfl (map_arr (ml_cons (a3.get rfl) (ml_cons (a3.get rfl) ml_nil))) rfl) d2 fun gf gg ag cx _ gh gj d3 => ?_)
        obtain ⟨aq, rfl, d4⟩ := d3
        refine sqv cx rfl (r_assign (cx.get rfl)) fun _ d5 => sq_end ?_
        have cy := d5.kp [(1, .int .i64 c), (3, .int .i64 d), (11, .pointer aq)] rfl
        refine then_normal (wp_seq (wp_region_lit ?_))
        refine sqv cy rfl (r_move (cy.get rfl)) fun _ cz => sqv cz rfl (r_move (cz.get rfl)) fun _ cA => ?_
        obtain ⟨aM, d6, d7⟩ := d4
        refine sqv cA rfl (r_nilCheckP (((cA.get rfl)).trans (congrArg Value.pointer d6))) fun _ cB => sqv cB rfl (r_fieldAddr (cB.get rfl) Tryz.underlying88 rfl ti_78 (by decide)) fun _ cC => ?_
        obtain ⟨av, d8, d9⟩ := d7
        refine sqv cC rfl (r_load1 tU78 rfl (cC.get rfl) d8) fun _ cD => sqv cD rfl (r_move (cD.get rfl)) fun _ cF => sqv cF rfl (r_move (cF.get rfl)) fun _ cG => ?_
        refine sq (opk_new (fun B => .slice (some ⟨B, 0, none⟩) 1 1) cG rfl (r_buildSlice (vs := #[(0, .int .i64 c)]) (cs := [.int .i64 c]) (map_arr2 (ml2_cons (cG.get rfl) (ml2_nil))) tU78 ti_3 rfl rfl (by kernel_rfl)) fun gm z ab fa fb fc aJ _ => ?_)
        have fd : New ag ab z := fb
        have ff : Chg [] ag z := fa
        have fg := d9 z ab fd  ff
        have fh := fg fc
        refine sq (opk_call aJ rfl (r_call (args := #[Sl.v av, .int .i64 d, Sl.v (Sl.mk (some ⟨ab, 0, none⟩) 1 1)]) Tryz.func67 (by decide) rfl (map_arr (ml_cons (aJ.get rfl) (ml_cons (aJ.get rfl) (ml_cons (aJ.get rfl) ml_nil)))) rfl) fh fun gq gu aN cH _ gG gJ fi => ?_)
        obtain ⟨ax, rfl, fj⟩ := fi
        obtain ⟨aO, fk, fl⟩ := fj
        refine sqv cH rfl (r_nilCheckP (((cH.get rfl)).trans (congrArg Value.pointer fk))) fun _ cI => sqv cI rfl (r_fieldAddr (cI.get rfl) Tryz.underlying88 rfl ti_78 (by decide)) fun _ a4 => ?_
        obtain ⟨ah, ay, aP, az, fm, cJ, fn, gU, fo⟩ := fl
        refine sq (opk_store a4 cJ (r_store (vs := [Sl.v ax]) (((a4.get rfl)).trans (congrArg (fun a => Value.pointer (some a)) fm)) (a4.get rfl) rfl ti_78 cJ (Nat.ble_eq_true_of_le fn) (ones_all _ rfl)) fun gV ar fp fq fr => ?_)
        have fs := fo ar fp fq
        refine sq_end ?_
        have ft := fr.kp [] rfl
        refine then_normal (wp_seq (wp_region_lit ?_))
        refine sqv ft rfl (r_assign rfl) fun _ fu => sq_end ?_
        have cK := fu.kp [(10, .int .i64 0)] rfl
        refine then_normal ?_
        refine wp_ret ?_
        exact res_all (vs := [.int .i64 0]) rfl cK ⟨res_of_tmp cK rfl, trivial⟩ fs
def dom_Dom_Delete.vc (d : Addr) (j : Int) (R : Value → World → Prop) (w : World) : Prop :=
CallK Tryz.prog 61 #[.pointer (some d), .int .i64 j] w [] (fun v k => ∃ (l : Option Addr), v = .pointer l ∧
(((Option.isNone l) = true) →
R (.int .i64 3) k) ∧
(((Option.isNone l) = false) →
∃ au : Addr, (l = some au) ∧
∃ (z : Int), (k.cell? ((au.add 2).add 0) = some (.int .i64 z)) ∧
((z = 1) →
R (.int .i64 4) k) ∧
((¬ (z = 1)) →
∃ av : Addr, (l = some av) ∧
∃ (aa : Sl), (k.cell? (av.add 7) = some (Sl.v aa)) ∧
((0 < (aa.n : Int)) →
R (.int .i64 7) k) ∧
((¬ (0 < (aa.n : Int))) →
CallK Tryz.prog 68 #[.pointer (some d), .int .i64 j] k [] (fun v u => v = .tuple #[] ∧
∃ (ax : Option Nat), (u.cell? (d.add 1) = some (.map ax)) ∧
∃ (m : Int), ((Instr.lookup 81 (.map ax) (.int .i64 j) false).run Tryz.prog u = .ok (.int .i64 m) u) ∧
∀ (g : World), Chg [] u g →
∃ (ab : Sl), (g.cell? (d.add 0) = some (Sl.v ab)) ∧
∃ (p : Sl), (g.cell? (d.add 0) = some (Sl.v p)) ∧
(I64 ((p.n : Int) - 1)) ∧
∃ ay : Addr, (((0 : Int) ≤ (p.n : Int) - 1 ∧ (p.n : Int) - 1 < (ab.n : Int)) ∧ ab.a = some ay) ∧
∃ (ad : Int) (az : Int) (aA : Int) (aB : Str) (aC : Str) (aD : Sl) (aG : Sl) (aH : Sl), (Cells g (ay.add (((p.n : Int) - 1).toNat * 8)) [.int .i64 ad, .int .i64 az, .int .i64 aA, .string (Bs aB), .string (Bs aC), Sl.v aD, Sl.v aG, Sl.v aH]) ∧
∀ (af : World) (i : Nat), Ext g af → g.heap.size ≤ i → Box af i 88 [.int .i64 0, .int .i64 0, .int .i64 0, .string (Bs []), .string (Bs []), Sl.v Sl.nil, Sl.v Sl.nil, Sl.v Sl.nil] → 
∀ (ah : World), Chg [i] af ah →
∃ (ai : Sl), (ah.cell? (d.add 0) = some (Sl.v ai)) ∧
∃ aI : Addr, (((0 : Int) ≤ m ∧ m < (ai.n : Int)) ∧ ai.a = some aI) ∧
∀ (aj : World), Chg [] ah aj →
∃ (q ak : Nat) (aJ : TypeId) (al : List Value), (aI.add (m.toNat * 8)) = ⟨q, ak, none⟩ ∧ Box aj q aJ al ∧ ak + 8 ≤ al.length ∧ (∀ b ∈ [i], b ≠ q) ∧
(∀ am : World, Chg [q] aj am → Box am q aJ (putAt al ak [.int .i64 ad, .int .i64 az, .int .i64 aA, .string (Bs aB), .string (Bs aC), Sl.v aD, Sl.v aG, Sl.v aH]) →
∀ (an : World), Chg [] am an →
∃ (aK : Option Nat), (an.cell? (d.add 1) = some (.map aK)) ∧
∀ (aL : World), Chg [] an aL →
RunU Tryz.prog (Instr.mapUpdate 81 (.map aK) (.int .i64 ad) (.int .i64 m)) aL [i] (fun aM =>
∃ (aN : Option Nat), (aM.cell? (d.add 1) = some (.map aN)) ∧
RunN Tryz.prog (Builtin.delete_ #[81, 3] 0 #[.map aN, .int .i64 j]) aM [] (fun aQ =>
∀ (x : World), Chg [] aQ x →
∃ (y : Sl), (x.cell? (d.add 0) = some (Sl.v y)) ∧
∃ (r : Sl), (x.cell? (d.add 0) = some (Sl.v r)) ∧
(I64 ((r.n : Int) - 1)) ∧
((0 : Int) ≤ (r.n : Int) - 1 ∧ (r.n : Int) - 1 ≤ (y.c : Int)) ∧
∀ (ao : World), Chg [] x ao →
∃ (t ap : Nat) (aO : TypeId) (aq : List Value), (d.add 0) = ⟨t, ap, none⟩ ∧ Box ao t aO aq ∧ ap + 1 ≤ aq.length ∧ (∀ b ∈ [], b ≠ t) ∧
(∀ ar : World, Chg [t] ao ar → Box ar t aO (putAt aq ap [Sl.v (Sl.cut y 8 0 ((r.n : Int) - 1).toNat y.c)]) →
R (.int .i64 0) ar)))))))))
theorem dom_Dom_Delete.ok (d : Addr) (j : Int) {R : Value → World → Prop} {w : World} (aR : dom_Dom_Delete.vc d j R w) : Calls Tryz.prog 35 #[.pointer (some d), .int .i64 j] w (Ret R) := by
 refine go _ Tryz.func35 Tryz.ntmps35 aR ?_
 refine gS <| gR <| gN <| ge <| tn <| gS <| gR ?_
 refine gM ?_
 refine gM ?_
 refine gC [] Tryz.func61 fun _ k => gE fun l => gQ ?_
 refine gN <| ge <| tn <| gS <| gb <| gS <| gR ?_
 refine gM ?_
 refine g2 (fun f aP => r_pnil (o := l) f aP tU85) ?_
 refine gN <| ge <| tn ?_
 refine gi id id ?_ ?_
 ·refine gS <| gR <| gN <| ge <| tn <| gr <| br <| tr ?_
  exact gz1
 ·refine gS <| gR <| gM ?_
  refine gnP fun au => ?_
  refine gF 2 Tryz.underlying88 ti_25 ?_
  refine gF 0 Tryz.underlying25 ti_3 ?_
  refine gE fun z => gL tU3 ?_
  refine g2 r_eql ?_
  refine gN <| ge <| tn ?_
  refine gi dT dF ?_ ?_
  ·refine gS <| gR <| gN <| ge <| tn <| gr <| br <| tr ?_
   exact gz1
  ·refine gS <| gR <| gM ?_
   refine gnP fun av => ?_
   refine gF 7 Tryz.underlying88 ti_78 ?_
   refine gE fun aa => gL tU78 ?_
   refine g1 (fun f => r_len f tU78) ?_
   refine g2 r_gtr ?_
   refine gN <| ge <| tn ?_
   refine gi dT dF ?_ ?_
   ·refine gS <| gR <| gN <| ge <| tn <| gr <| br <| tr ?_
    exact gz1
   ·refine gk <| bn <| tn <| gS <| gR <| gM ?_
    refine gM ?_
    refine gC [] Tryz.func68 fun _ u => gQ <| ge <| tn <| gS <| gR ?_
    refine gM ?_
    refine g1 r_nilCheck ?_
    refine gF 1 Tryz.underlying84 ti_81 ?_
    refine gE fun ax => gL tU81 ?_
    refine gM ?_
    refine gE fun m => gA fun hx => ev (fun _ s => r_lookup (s.ag.opv rfl) (s.ag.opv rfl) hx) ?_
    refine gN <| ge <| tn <| gS ?_
    refine gD fun g => gT0 <| gE fun ab => gA fun aS => gE fun p => gA fun aU => gA fun aV => gE fun ay => gA fun aX => gE fun ad => gE fun az => gE fun aA => gE fun aB => gE fun aC => gE fun aD => gE fun aG => gE fun aH => gA fun aY => ?_
    refine gW 0 13 [(12, rsB g (fun B => .pointer (some ⟨B, 0, none⟩)) 88 [.int .i64 0, .int .i64 0, .int .i64 0, .string (Bs []), .string (Bs []), Sl.v Sl.nil, Sl.v Sl.nil, Sl.v Sl.nil])] ?_
    refine gM ?_
    refine g1 r_nilCheck ?_
    refine gF 0 Tryz.underlying84 ti_82 ?_
    refine gP aS <| gL tU82 ?_
    refine gM ?_
    refine g1 r_nilCheck ?_
    refine gF 0 Tryz.underlying84 ti_82 ?_
    refine gP aU <| gL tU82 ?_
    refine g1 (fun f => r_len f tU82) ?_
    refine gP aV <| g2s r_subI ?_
    refine gIx tU82 ti_88 aX ?_
    refine gP aY <| gLN Tryz.underlying88 ti_88 ?_
    refine yn (fun B => .pointer (some ⟨B, 0, none⟩)) (cs := [.int .i64 0, .int .i64 0, .int .i64 0, .string (Bs []), .string (Bs []), Sl.v Sl.nil, Sl.v Sl.nil, Sl.v Sl.nil]) rfl (fun _ hA _ => r_alloc ti_88 rfl) (fun _ _ B _ _ _ h1 h2 => ⟨B, rfl, h1, h2⟩) fun i => ?_
    refine eB (B := i) (T := 88) (cs := [.int .i64 0, .int .i64 0, .int .i64 0, .string (Bs []), .string (Bs []), Sl.v Sl.nil, Sl.v Sl.nil, Sl.v Sl.nil]) (fun _ hF => ⟨hF.1.1, hF.1.2⟩) (fun v w' hE hF => v w' i hE hF.1.1 hF.1.2) fun af => ?_
    refine gO 13 ?_
    refine wo 0 ti_88 fun a1 => geO ?_
    refine gZ <| tn <| gS ?_
    refine gD fun ah => gT0 ?_
    refine gW 0 7 [] ?_
    refine gM ?_
    refine g1 r_nilCheck ?_
    refine gF 0 Tryz.underlying84 ti_82 ?_
    refine gE fun ai => gL tU82 ?_
    refine gM ?_
    refine gBN 0 8 Tryz.underlying88 ti_88 ?_
    refine gI2 tU82 ti_88 fun aI => geT fun aj => ?_
    refine gO 7 <| gT0 ?_
    refine wx [0] ti_88 fun q ak aJ al am => geO ?_
    refine gZ <| tn <| gS ?_
    refine gD fun an => gT0 ?_
    refine gW 0 7 [] ?_
    refine gM ?_
    refine g1 r_nilCheck ?_
    refine gF 1 Tryz.underlying84 ti_81 ?_
    refine gE fun aK => gL tU81 ?_
    refine gF 0 Tryz.underlying88 ti_3 ?_
    refine gB 0 tU3 ?_
    refine gM <| geT fun aL => ?_
    refine gO 7 <| gT0 ?_
    refine gU3 [0] r_mapUpdate fun aM => geO ?_
    refine gZ <| tn <| gS <| gR ?_
    refine gM ?_
    refine g1 r_nilCheck ?_
    refine gF 1 Tryz.underlying84 ti_81 ?_
    refine gE fun aN => gL tU81 ?_
    refine gM ?_
    refine gN2 [] r_delete fun aQ => ge <| tn <| gS ?_
    refine gD fun x => gT0 ?_
    refine gW 0 14 [] ?_
    refine gM ?_
    refine gM ?_
    refine g1 r_nilCheck ?_
    refine gF 0 Tryz.underlying84 ti_82 ?_
    refine gE fun y => gL tU82 ?_
    refine gM ?_
    refine g1 r_nilCheck ?_
    refine gF 0 Tryz.underlying84 ti_82 ?_
    refine gE fun r => gL tU82 ?_
    refine g1 (fun f => r_len f tU82) ?_
    refine g2s r_subI ?_
    refine g2s (fun f aP h => r_sliceH f aP tU82 ti_88 h) ?_
    refine g1 r_nilCheck ?_
    refine gF 0 Tryz.underlying84 ti_82 <| geT fun ao => ?_
    refine gO 14 <| gT0 ?_
    refine wx [] ti_82 fun t ap aO aq ar => geO ?_
    refine gZ <| tn <| gS <| gR ?_
    refine gN <| ge <| tn <| gr ?_
    exact gz1
def dom_Dom_Move.vc (a : Addr) (c : Int) (d : Int) (i : Int) (R : Value → World → Prop) (w : World) : Prop :=
CallK Tryz.prog 61 #[.pointer (some a), .int .i64 c] w [] (fun v w7 => ∃ (f : Option Addr), v = .pointer f ∧
CallK Tryz.prog 61 #[.pointer (some a), .int .i64 d] w7 [] (fun v j => ∃ (g : Option Addr), v = .pointer g ∧
((((Option.isNone f) = true) ∨ ((Option.isNone g) = true)) →
R (.int .i64 3) j) ∧
((((Option.isNone f) = false) ∧ ((Option.isNone g) = false)) →
∃ am : Addr, (f = some am) ∧
∃ (k : Int), (j.cell? ((am.add 2).add 0) = some (.int .i64 k)) ∧
∃ an : Addr, (((¬ (k = 1))) → f = some an) ∧
∃ (ao : Int), (((¬ (k = 1))) → j.cell? ((an.add 2).add 0) = some (.int .i64 ao)) ∧
∃ (z : Bool), (((¬ (k = 1))) → Calls Tryz.prog 64 #[.pointer g, .int .i64 ao] j (Ret fun v w' => Ext j w' ∧ v = .bool z)) ∧
(∀ aa : World, Ext j aa →
(((k = 1) ∨ (z = false)) →
R (.int .i64 4) aa) ∧
(((¬ (k = 1)) ∧ (z = true)) →
CallK Tryz.prog 69 #[.pointer (some a), .int .i64 c, .int .i64 d] aa [] (fun v l => ∃ (ab : Bool), v = .bool ab ∧
((ab = true) →
R (.int .i64 6) l) ∧
((ab = false) →
∃ ap : Addr, (g = some ap) ∧
∃ (s : Sl), (l.cell? (ap.add 7) = some (Sl.v s)) ∧
∃ aq : Addr, (f = some aq) ∧
∃ (ad : Int), (l.cell? (aq.add 1) = some (.int .i64 ad)) ∧
∃ ar : Int → World → Prop,
(((ad = d) →
(I64 ((s.n : Int) - 1)) ∧
ar ((s.n : Int) - 1) l) ∧
((¬ (ad = d)) →
ar (s.n : Int) l)) ∧
(∀ (m : Int) (af : World), ar m af →
(((i < 0) ∨ (m < i)) →
R (.int .i64 5) af) ∧
(((¬ (i < 0)) ∧ (¬ (m < i))) →
CallK Tryz.prog 65 #[.pointer (some a), .int .i64 d] af [] (fun v aJ => ∃ (t : Int), v = .int .i64 t ∧
CallK Tryz.prog 70 #[.pointer (some a), .int .i64 c] aJ [] (fun v au => ∃ (u : Int), v = .int .i64 u ∧
(I64 (t + u)) ∧
((60 < (t + u)) →
R (.int .i64 2) au) ∧
((¬ (60 < (t + u))) →
CallK Tryz.prog 68 #[.pointer (some a), .int .i64 c] au [] (fun v av => v = .tuple #[] ∧
∃ ax : Addr, (f = some ax) ∧
∃ (p ag : Nat) (ay : TypeId) (ah : List Value), (ax.add 1) = ⟨p, ag, none⟩ ∧ Box av p ay ah ∧ ag + 1 ≤ ah.length ∧ (∀ b ∈ [], b ≠ p) ∧
(∀ q : World, Chg [p] av q → Box q p ay (putAt ah ag [.int .i64 d]) →
∃ az : Addr, (g = some az) ∧
∃ (aA : Sl), (q.cell? (az.add 7) = some (Sl.v aA)) ∧
∀ (x : World) (ai : Nat), New q ai x → Chg [] q x →
∀ (_ : Box x ai 3 [.int .i64 c]),
CallK Tryz.prog 67 #[Sl.v aA, .int .i64 i, Sl.v (Sl.mk (some ⟨ai, 0, none⟩) 1 1)] x [] (fun v aB => ∃ (aC : Sl), v = Sl.v aC ∧
∃ aD : Addr, (g = some aD) ∧
∃ (r aj : Nat) (aG : TypeId) (ak : List Value), (aD.add 7) = ⟨r, aj, none⟩ ∧ Box aB r aG ak ∧ aj + 1 ≤ ak.length ∧ (∀ b ∈ [], b ≠ r) ∧
(∀ al : World, Chg [r] aB al → Box al r aG (putAt ak aj [Sl.v aC]) →
R (.int .i64 0) al))))))))))))))))
theorem dom_Dom_Move.ok (a : Addr) (c : Int) (d : Int) (i : Int) {R : Value → World → Prop} {w : World} (aK : dom_Dom_Move.vc a c d i R w) : Calls Tryz.prog 38 #[.pointer (some a), .int .i64 c, .int .i64 d, .int .i64 i] w (Ret R) := by
 refine go _ Tryz.func38 Tryz.ntmps38 aK ?_
 refine gS <| gR <| gN <| ge <| tn <| gS <| gR ?_
 refine gM ?_
 refine gM ?_
 refine gC [] Tryz.func61 fun _ w7 => gE fun f => gQ ?_
 refine gM ?_
 refine gM ?_
 refine gC [] Tryz.func61 fun _ j => gE fun g => gQ ?_
 refine gN ?_
 refine gN <| ge <| tn <| gS <| gb <| gS <| gR ?_
 refine gM ?_
 refine g2 (fun y aH => r_pnil (o := f) y aH tU85) ?_
 refine gM ?_
 refine G1 r_move ?_
 refine G2 (fun y aH => r_pnil (o := g) y aH tU85) ?_
 refine gpo ?_
 refine gN <| ge <| tn ?_
 refine gi (fun h => ((oT h).imp (fun h => h) (fun h => h))) (fun h => ⟨(oF h).1, (oF h).2⟩) ?_ ?_
 ·refine gS <| gR <| gN <| ge <| tn <| gr <| br <| tr ?_
  exact gz1
 ·refine gS <| gR <| gM ?_
  refine gnP fun am => ?_
  refine gF 2 Tryz.underlying88 ti_25 ?_
  refine gF 0 Tryz.underlying25 ti_3 ?_
  refine gE fun k => gL tU3 ?_
  refine g2 r_eql ?_
  refine gM ?_
  refine G1 r_move ?_
  refine G1 r_move ?_
  refine GnP (fun hg => (dF (g_f hg))) fun an => ?_
  refine GF 2 Tryz.underlying88 ti_25 ?_
  refine GF 0 Tryz.underlying25 ti_3 ?_
  refine gE fun ao => GLd tU3 (fun hg => (dF (g_f hg))) ?_
  refine gE fun z => GC Tryz.func64 (fun hg => (dF (g_f hg))) fun aa => ?_
  refine G1 r_not ?_
  refine gpo ?_
  refine gN <| ge <| tn ?_
  refine gi (fun h => ((oT h).imp (fun h => (dT h)) (fun h => (nT h)))) (fun h => ⟨(dF (oF h).1), (nF (oF h).2)⟩) ?_ ?_
  ·refine gS <| gR <| gN <| ge <| tn <| gr <| br <| tr ?_
   exact gz1
  ·refine gS <| gR <| gM ?_
   refine gM ?_
   refine gM ?_
   refine gC [] Tryz.func69 fun _ l => gE fun ab => gQ ?_
   refine gN <| ge <| tn ?_
   refine gi id id ?_ ?_
   ·refine gS <| gR <| gN <| ge <| tn <| gr <| br <| tr ?_
    exact gz1
   ·refine gk <| bn <| tn <| gS <| gR <| gM ?_
    refine gnP fun ap => ?_
    refine gF 7 Tryz.underlying88 ti_78 ?_
    refine gE fun s => gL tU78 ?_
    refine g1 (fun y => r_len y tU78) ?_
    refine gN <| ge <| tn <| gS <| gS <| gR ?_
    refine gM ?_
    refine gnP fun aq => ?_
    refine gF 1 Tryz.underlying88 ti_3 ?_
    refine gE fun ad => gL tU3 ?_
    refine gM ?_
    refine g2 r_eql <| ge <| tn <| gE fun J => ?_
    refine m1 (fun m => [(11, .int .i64 m)]) [(0, _), (1, _), (2, _), (3, _), (9, _), (10, _)] (fun _ => []) [] [] ?_ fun m af _ => ?_
    ·refine gi dT dF ?_ ?_
     ·refine gR <| gM ?_
      refine g2s r_subI ?_
      refine gN <| ge ?_
      exact j1 []
     ·exact gk <| j1 []
    ·refine tn <| gS <| gb <| gS <| gR <| gM ?_
     refine g2 r_lss ?_
     refine gM ?_
     refine G1 r_move ?_
     refine G1 r_move ?_
     refine G2 r_gtr ?_
     refine gpo ?_
     refine gN <| ge <| tn ?_
     refine gi (fun h => ((oT h).imp (fun h => (dT h)) (fun h => (dT h)))) (fun h => ⟨(dF (oF h).1), (dF (oF h).2)⟩) ?_ ?_
     ·refine gS <| gR <| gN <| ge <| tn <| gr <| br <| tr ?_
      exact gz1
     ·refine gS <| gR <| gM ?_
      refine gM ?_
      refine gC [] Tryz.func65 fun _ aJ => gE fun t => gQ ?_
      refine gM ?_
      refine gM ?_
      refine gC [] Tryz.func70 fun _ au => gE fun u => gQ ?_
      refine g2s r_addI ?_
      refine g2 r_gtr ?_
      refine gN <| ge <| tn ?_
      refine gi dT dF ?_ ?_
      ·refine gS <| gR <| gN <| ge <| tn <| gr <| br <| tr ?_
       exact gz1
      ·refine gk <| bn <| tn <| gS <| gR <| gM ?_
       refine gM ?_
       refine gC [] Tryz.func68 fun _ av => gQ <| ge <| tn <| gS <| gR ?_
       refine gM ?_
       refine gM ?_
       refine gnP fun ax => ?_
       refine gF 1 Tryz.underlying88 ti_3 ?_
       refine wx [] ti_3 fun p ag ay ah q => ge <| tn <| gS <| gR ?_
       refine gM ?_
       refine gM ?_
       refine gnP fun az => ?_
       refine gF 7 Tryz.underlying88 ti_78 ?_
       refine gE fun aA => gL tU78 ?_
       refine gM ?_
       refine gM ?_
       refine ns [.int .i64 c] tU78 ti_3 fun x ai => gT1 ?_
       refine gX 0 ?_
       refine gC [] Tryz.func67 fun _ aB => gE fun aC => gQ ?_
       refine gnP fun aD => ?_
       refine gF 7 Tryz.underlying88 ti_78 ?_
       refine wx [] ti_78 fun r aj aG ak al => ge <| tn <| gS <| gR ?_
       refine gN <| ge <| tn <| gr ?_
       exact gz1
def dom_Dom_Set.vc (t : Addr) (u : Int) (j : Str) (d : Str) (R : Value → World → Prop) (w : World) : Prop :=
CallK Tryz.prog 61 #[.pointer (some t), .int .i64 u] w [] (fun v q => ∃ (c : Option Addr), v = .pointer c ∧
(((Option.isNone c) = true) →
R (.int .i64 3) q) ∧
(((Option.isNone c) = false) →
∃ an : Addr, (c = some an) ∧
∃ (x : Int), (q.cell? ((an.add 2).add 0) = some (.int .i64 x)) ∧
((x ≠ 2) →
R (.int .i64 4) q) ∧
((¬ (x ≠ 2)) →
CallK Tryz.prog 71 #[.string (Bs j)] q [] (fun v ao => ∃ (y : Bool), v = .bool y ∧
((y = false) →
R (.int .i64 8) ao) ∧
((y = true) →
CallK Tryz.prog 72 #[.pointer c, .string (Bs j)] ao [] (fun v f => ∃ (g : Int) (i : Bool), v = .tuple #[.int .i64 g, .bool i] ∧
∃ ap : Addr, (((¬ (4096 < (d.length : Int))) ∧ (i = false)) → c = some ap) ∧
∃ (z : Sl), (((¬ (4096 < (d.length : Int))) ∧ (i = false)) → f.cell? ((ap.add 2).add 3) = some (Sl.v z)) ∧
(((4096 < (d.length : Int)) ∨ ((i = false) ∧ (12 ≤ (z.n : Int)))) →
R (.int .i64 2) f) ∧
(((¬ (4096 < (d.length : Int))) ∧ ((i = true) ∨ (¬ (12 ≤ (z.n : Int))))) →
((i = false) →
∃ aq : Addr, (c = some aq) ∧
∃ (ar : Sl), (f.cell? ((aq.add 2).add 3) = some (Sl.v ar)) ∧
∀ (r : World) (aa : Nat), New f aa r → Chg [] f r →
∀ (_ : Box r aa 63 [.string (Bs j), .string (Bs [])]),
CallK Tryz.prog 73 #[Sl.v ar, .int .i64 g, Sl.v (Sl.mk (some ⟨aa, 0, none⟩) 1 1)] r [] (fun v au => ∃ (av : Sl), v = Sl.v av ∧
∃ ax : Addr, (c = some ax) ∧
∃ (k ab : Nat) (ay : TypeId) (ad : List Value), ((ax.add 2).add 3) = ⟨k, ab, none⟩ ∧ Box au k ay ad ∧ ab + 1 ≤ ad.length ∧ (∀ b ∈ [], b ≠ k) ∧
(∀ l : World, Chg [k] au l → Box l k ay (putAt ad ab [Sl.v av]) →
∃ az : Addr, (c = some az) ∧
∃ (af : Sl), (l.cell? ((az.add 2).add 3) = some (Sl.v af)) ∧
((0 : Int) ≤ g ∧ g < (af.n : Int)) ∧ ∃ aA : Addr, af.a = some aA ∧
∃ (m ag : Nat) (aB : TypeId) (ah : List Value), ((aA.add (g.toNat * 2)).add 1) = ⟨m, ag, none⟩ ∧ Box l m aB ah ∧ ag + 1 ≤ ah.length ∧ (∀ b ∈ [], b ≠ m) ∧
(∀ ai : World, Chg [m] l ai → Box ai m aB (putAt ah ag [.string (Bs d)]) →
R (.int .i64 0) ai)))) ∧
((i = true) →
∃ aC : Addr, (c = some aC) ∧
∃ (aj : Sl), (f.cell? ((aC.add 2).add 3) = some (Sl.v aj)) ∧
((0 : Int) ≤ g ∧ g < (aj.n : Int)) ∧ ∃ aD : Addr, aj.a = some aD ∧
∃ (p ak : Nat) (aG : TypeId) (al : List Value), ((aD.add (g.toNat * 2)).add 1) = ⟨p, ak, none⟩ ∧ Box f p aG al ∧ ak + 1 ≤ al.length ∧ (∀ b ∈ [], b ≠ p) ∧
(∀ am : World, Chg [p] f am → Box am p aG (putAt al ak [.string (Bs d)]) →
R (.int .i64 0) am)))))))))
theorem dom_Dom_Set.ok (t : Addr) (u : Int) (j : Str) (d : Str) {R : Value → World → Prop} {w : World} (aH : dom_Dom_Set.vc t u j d R w) : Calls Tryz.prog 41 #[.pointer (some t), .int .i64 u, .string (Bs j), .string (Bs d)] w (Ret R) := by
 refine go _ Tryz.func41 Tryz.ntmps41 aH ?_
 refine gS <| gR <| gN <| ge <| tn <| gS <| gR ?_
 refine gM ?_
 refine gM ?_
 refine gC [] Tryz.func61 fun _ q => gE fun c => gQ ?_
 refine gN <| ge <| tn <| gS <| gb <| gS <| gR ?_
 refine gM ?_
 refine g2 (fun s aI => r_pnil (o := c) s aI tU85) ?_
 refine gN <| ge <| tn ?_
 refine gi id id ?_ ?_
 ·refine gS <| gR <| gN <| ge <| tn <| gr <| br <| tr ?_
  exact gz1
 ·refine gS <| gR <| gM ?_
  refine gnP fun an => ?_
  refine gF 2 Tryz.underlying88 ti_25 ?_
  refine gF 0 Tryz.underlying25 ti_3 ?_
  refine gE fun x => gL tU3 ?_
  refine g2 r_neq ?_
  refine gN <| ge <| tn ?_
  refine gi dT dF ?_ ?_
  ·refine gS <| gR <| gN <| ge <| tn <| gr <| br <| tr ?_
   exact gz1
  ·refine gS <| gR <| gM ?_
   refine gC [] Tryz.func71 fun _ ao => gE fun y => gQ ?_
   refine g1 r_not ?_
   refine gN <| ge <| tn ?_
   refine gi nT nF ?_ ?_
   ·refine gS <| gR <| gN <| ge <| tn <| gr <| br <| tr ?_
    exact gz1
   ·refine gk <| bn <| tn <| gS <| gR <| gM ?_
    refine gM ?_
    refine gC [] Tryz.func72 fun _ f => gE fun g => gE fun i => gQ ?_
    refine gM ?_
    refine gx1 ?_
    refine gx1 ?_
    refine gN ?_
    refine gN <| ge <| tn <| gS <| gb <| gS <| gR ?_
    refine gM ?_
    refine g1 (fun s => r_slen s tU9) ?_
    refine g2 r_gtr ?_
    refine gM ?_
    refine G1 r_move ?_
    refine G1 r_not ?_
    refine G1 r_move ?_
    refine G1 r_move ?_
    refine GnP (fun hg => ⟨(dF (g_f (g_up hg))), (nT (g_t hg))⟩) fun ap => ?_
    refine GF 2 Tryz.underlying88 ti_25 ?_
    refine GF 3 Tryz.underlying25 ti_22 ?_
    refine gE fun z => GLd tU22 (fun hg => ⟨(dF (g_f (g_up hg))), (nT (g_t hg))⟩) ?_
    refine G1 (fun s => r_len s tU22) ?_
    refine G2 r_geq ?_
    refine Gpa ?_
    refine gpo ?_
    refine gN <| ge <| tn ?_
    refine gi (fun h => ((oT h).imp (fun h => (dT h)) (fun h => ⟨(nT (aT h).1), (dT (aT h).2)⟩))) (fun h => ⟨(dF (oF h).1), ((aF (oF h).2).imp (fun h => (nF h)) (fun h => (dF h)))⟩) ?_ ?_
    ·refine gS <| gR <| gN <| ge <| tn <| gr <| br <| tr ?_
     exact gz1
    ·refine gS <| gR <| gM ?_
     refine g1 r_not ?_
     refine gN <| ge <| tn ?_
     refine gi nT nF ?_ ?_
     ·refine gR <| gM ?_
      refine gM ?_
      refine gnP fun aq => ?_
      refine gF 2 Tryz.underlying88 ti_25 ?_
      refine gF 3 Tryz.underlying25 ti_22 ?_
      refine gE fun ar => gL tU22 ?_
      refine gM ?_
      refine gM ?_
      refine gbu ti_63 Tryz.underlying63 pl_63 (OPs.of rfl) ?_
      refine ns [.string (Bs j), .string (Bs [])] tU22 ti_63 fun r aa => gT1 ?_
      refine gX 0 ?_
      refine gC [] Tryz.func73 fun _ au => gE fun av => gQ ?_
      refine gnP fun ax => ?_
      refine gF 2 Tryz.underlying88 ti_25 ?_
      refine gF 3 Tryz.underlying25 ti_22 ?_
      refine wx [] ti_22 fun k ab ay ad l => ge <| bn <| tn <| gS <| gR ?_
      refine gM ?_
      refine gnP fun az => ?_
      refine gF 2 Tryz.underlying88 ti_25 ?_
      refine gF 3 Tryz.underlying25 ti_22 ?_
      refine gE fun af => gL tU22 ?_
      refine gM ?_
      refine gM ?_
      refine gI1 tU22 ti_63 fun aA => ?_
      refine gF 1 Tryz.underlying63 ti_9 ?_
      refine wx [] ti_9 fun m ag aB ah ai => ge <| tn <| gS <| gR ?_
      refine gN <| ge <| tn <| gr ?_
      exact gz1
     ·refine gk <| bn <| tn <| gS <| gR <| gM ?_
      refine gnP fun aC => ?_
      refine gF 2 Tryz.underlying88 ti_25 ?_
      refine gF 3 Tryz.underlying25 ti_22 ?_
      refine gE fun aj => gL tU22 ?_
      refine gM ?_
      refine gM ?_
      refine gI1 tU22 ti_63 fun aD => ?_
      refine gF 1 Tryz.underlying63 ti_9 ?_
      refine wx [] ti_9 fun p ak aG al am => ge <| tn <| gS <| gR ?_
      refine gN <| ge <| tn <| gr ?_
      exact gz1
def dom_Dom_Unset.vc (q : Addr) (r : Int) (s : Str) (R : Value → World → Prop) (w : World) : Prop :=
CallK Tryz.prog 61 #[.pointer (some q), .int .i64 r] w [] (fun v l => ∃ (d : Option Addr), v = .pointer d ∧
(((Option.isNone d) = true) →
R (.int .i64 3) l) ∧
(((Option.isNone d) = false) →
∃ ad : Addr, (d = some ad) ∧
∃ (t : Int), (l.cell? ((ad.add 2).add 0) = some (.int .i64 t)) ∧
((t ≠ 2) →
R (.int .i64 4) l) ∧
((¬ (t ≠ 2)) →
CallK Tryz.prog 72 #[.pointer d, .string (Bs s)] l [] (fun v u => ∃ (a : Int) (x : Bool), v = .tuple #[.int .i64 a, .bool x] ∧
((x = false) →
R (.int .i64 8) u) ∧
((x = true) →
∃ af : Addr, (d = some af) ∧
∃ (m : Sl), (u.cell? ((af.add 2).add 3) = some (Sl.v m)) ∧
(I64 ((m.n : Int) - 1)) ∧
RunK Tryz.prog (Instr.makeSlice 22 (.int .i64 ((m.n : Int) - 1)) (.int .i64 ((m.n : Int) - 1))) u [] (fun v ag => ∃ (g : Sl), v = Sl.v g ∧
∃ ah : Addr, (d = some ah) ∧
∃ (p : Sl), (ag.cell? ((ah.add 2).add 3) = some (Sl.v p)) ∧
((0 : Int) ≤ a ∧ a ≤ (p.c : Int)) ∧
RunK Tryz.prog (Builtin.copy_ #[22, 22] 3 #[Sl.v g, Sl.v (Sl.cut p 2 0 a.toNat p.c)]) ag [] (fun v an => ∃ (ao : Int), v = .int .i64 ao ∧
∀ (y : World), Chg [] an y →
((0 : Int) ≤ a ∧ a ≤ (g.n : Int)) ∧
∃ ai : Addr, (d = some ai) ∧
∃ (j : Sl), (y.cell? ((ai.add 2).add 3) = some (Sl.v j)) ∧
(I64 (a + 1)) ∧
((0 : Int) ≤ a + 1 ∧ a + 1 ≤ (j.n : Int)) ∧
∀ (aj : World), Chg [] y aj →
RunK Tryz.prog (Builtin.copy_ #[22, 22] 3 #[Sl.v (Sl.cut g 2 a.toNat g.n g.c), Sl.v (Sl.cut j 2 (a + 1).toNat j.n j.c)]) aj [] (fun v ak => ∃ (ap : Int), v = .int .i64 ap ∧
∃ al : Addr, (d = some al) ∧
∃ (k z : Nat) (am : TypeId) (aa : List Value), ((al.add 2).add 3) = ⟨k, z, none⟩ ∧ Box ak k am aa ∧ z + 1 ≤ aa.length ∧ (∀ b ∈ [], b ≠ k) ∧
(∀ ab : World, Chg [k] ak ab → Box ab k am (putAt aa z [Sl.v g]) →
R (.int .i64 0) ab)))))))))
theorem dom_Dom_Unset.ok (q : Addr) (r : Int) (s : Str) {R : Value → World → Prop} {w : World} (aq : dom_Dom_Unset.vc q r s R w) : Calls Tryz.prog 44 #[.pointer (some q), .int .i64 r, .string (Bs s)] w (Ret R) := by
 refine go _ Tryz.func44 Tryz.ntmps44 aq ?_
 refine gS <| gR <| gN <| ge <| tn <| gS <| gR ?_
 refine gM ?_
 refine gM ?_
 refine gC [] Tryz.func61 fun _ l => gE fun d => gQ ?_
 refine gN <| ge <| tn <| gS <| gb <| gS <| gR ?_
 refine gM ?_
 refine g2 (fun f i => r_pnil (o := d) f i tU85) ?_
 refine gN <| ge <| tn ?_
 refine gi id id ?_ ?_
 ·refine gS <| gR <| gN <| ge <| tn <| gr <| br <| tr ?_
  exact gz1
 ·refine gS <| gR <| gM ?_
  refine gnP fun ad => ?_
  refine gF 2 Tryz.underlying88 ti_25 ?_
  refine gF 0 Tryz.underlying25 ti_3 ?_
  refine gE fun t => gL tU3 ?_
  refine g2 r_neq ?_
  refine gN <| ge <| tn ?_
  refine gi dT dF ?_ ?_
  ·refine gS <| gR <| gN <| ge <| tn <| gr <| br <| tr ?_
   exact gz1
  ·refine gk <| bn <| tn <| gS <| gR <| gM ?_
   refine gM ?_
   refine gC [] Tryz.func72 fun _ u => gE fun a => gE fun x => gQ ?_
   refine gM ?_
   refine gx1 ?_
   refine gx1 ?_
   refine gN ?_
   refine gN <| ge <| tn <| gS <| gS <| gR ?_
   refine gM ?_
   refine g1 r_not <| ge <| tn ?_
   refine gi nT nF ?_ ?_
   ·refine gS <| gR <| gN <| ge <| tn <| gr <| tr ?_
    exact gz1
   ·refine gk <| tn <| gS <| gR <| gM ?_
    refine gnP fun af => ?_
    refine gF 2 Tryz.underlying88 ti_25 ?_
    refine gF 3 Tryz.underlying25 ti_22 ?_
    refine gE fun m => gL tU22 ?_
    refine g1 (fun f => r_len f tU22) ?_
    refine g2s r_subI ?_
    refine gR2 [] r_makeSlice fun _ ag => gE fun g => gQ ?_
    refine gN <| ge <| tn <| gS <| gR ?_
    refine gM ?_
    refine gM ?_
    refine gnP fun ah => ?_
    refine gF 2 Tryz.underlying88 ti_25 ?_
    refine gF 3 Tryz.underlying25 ti_22 ?_
    refine gE fun p => gL tU22 ?_
    refine gM ?_
    refine g2s (fun f i h => r_sliceH f i tU22 ti_63 h) ?_
    refine gR2 [] r_copy fun _ an => gE fun ao => gQ <| ge <| tn <| gS ?_
    refine gD fun y => gT0 ?_
    refine gW 0 11 [] ?_
    refine gM ?_
    refine gM ?_
    refine g2s (fun f i h => r_sliceL f i tU22 ti_63 h) ?_
    refine gM ?_
    refine gnP fun ai => ?_
    refine gF 2 Tryz.underlying88 ti_25 ?_
    refine gF 3 Tryz.underlying25 ti_22 ?_
    refine gE fun j => gL tU22 ?_
    refine gM ?_
    refine g2s r_addI ?_
    refine g2s (fun f i h => r_sliceL f i tU22 ti_63 h) <| geT fun aj => ?_
    refine gO 11 <| gT0 ?_
    refine gR2 [] r_copy fun _ ak => gE fun ap => gQ <| geO ?_
    refine gZ <| tn <| gS <| gR ?_
    refine gM ?_
    refine gM ?_
    refine gnP fun al => ?_
    refine gF 2 Tryz.underlying88 ti_25 ?_
    refine gF 3 Tryz.underlying25 ti_22 ?_
    refine wx [] ti_22 fun k z am aa ab => ge <| tn <| gS <| gR ?_
    refine gN <| ge <| tn <| gr ?_
    exact gz1
def dom_Dom_Text.vc (i : Addr) (j : Int) (d : Str) (R : Value → World → Prop) (w : World) : Prop :=
CallK Tryz.prog 61 #[.pointer (some i), .int .i64 j] w [] (fun v a => ∃ (c : Option Addr), v = .pointer c ∧
(((Option.isNone c) = true) →
R (.int .i64 3) a) ∧
(((Option.isNone c) = false) →
∃ q : Addr, (c = some q) ∧
∃ (f : Int), (a.cell? ((q.add 2).add 0) = some (.int .i64 f)) ∧
∃ r : Addr, (((f ≠ 3)) → c = some r) ∧
∃ (k : Int), (((f ≠ 3)) → a.cell? ((r.add 2).add 0) = some (.int .i64 k)) ∧
(((f ≠ 3) ∧ (k ≠ 4)) →
R (.int .i64 4) a) ∧
(((¬ (f ≠ 3)) ∨ (¬ (k ≠ 4))) →
∃ s : Addr, (c = some s) ∧
∃ (l : Int), (a.cell? ((s.add 2).add 0) = some (.int .i64 l)) ∧
(((l = 3) ∧ (d = ([] : Str))) →
R (.int .i64 1) a) ∧
(((¬ (l = 3)) ∨ (¬ (d = ([] : Str)))) →
((4096 < (d.length : Int)) →
R (.int .i64 2) a) ∧
((¬ (4096 < (d.length : Int))) →
∃ t : Addr, (c = some t) ∧
∃ (g m : Nat) (u : TypeId) (n : List Value), ((t.add 2).add 2) = ⟨g, m, none⟩ ∧ Box a g u n ∧ m + 1 ≤ n.length ∧ (∀ b ∈ [], b ≠ g) ∧
(∀ p : World, Chg [g] a p → Box p g u (putAt n m [.string (Bs d)]) →
R (.int .i64 0) p))))))
theorem dom_Dom_Text.ok (i : Addr) (j : Int) (d : Str) {R : Value → World → Prop} {w : World} (y : dom_Dom_Text.vc i j d R w) : Calls Tryz.prog 47 #[.pointer (some i), .int .i64 j, .string (Bs d)] w (Ret R) := by
 refine go _ Tryz.func47 Tryz.ntmps47 y ?_
 refine gS <| gR <| gN <| ge <| tn <| gS <| gR ?_
 refine gM ?_
 refine gM ?_
 refine gC [] Tryz.func61 fun _ a => gE fun c => gQ ?_
 refine gN <| ge <| tn <| gS <| gb <| gS <| gR ?_
 refine gM ?_
 refine g2 (fun x z => r_pnil (o := c) x z tU85) ?_
 refine gN <| ge <| tn ?_
 refine gi id id ?_ ?_
 ·refine gS <| gR <| gN <| ge <| tn <| gr <| br <| tr ?_
  exact gz1
 ·refine gS <| gR <| gM ?_
  refine gnP fun q => ?_
  refine gF 2 Tryz.underlying88 ti_25 ?_
  refine gF 0 Tryz.underlying25 ti_3 ?_
  refine gE fun f => gL tU3 ?_
  refine g2 r_neq ?_
  refine gM ?_
  refine G1 r_move ?_
  refine GnP (fun hg => (dT (g_t hg))) fun r => ?_
  refine GF 2 Tryz.underlying88 ti_25 ?_
  refine GF 0 Tryz.underlying25 ti_3 ?_
  refine gE fun k => GLd tU3 (fun hg => (dT (g_t hg))) ?_
  refine G2 r_neq ?_
  refine gpa ?_
  refine gN <| ge <| tn ?_
  refine gi (fun h => ⟨(dT (aT h).1), (dT (aT h).2)⟩) (fun h => ((aF h).imp (fun h => (dF h)) (fun h => (dF h)))) ?_ ?_
  ·refine gS <| gR <| gN <| ge <| tn <| gr <| br <| tr ?_
   exact gz1
  ·refine gS <| gR <| gM ?_
   refine gnP fun s => ?_
   refine gF 2 Tryz.underlying88 ti_25 ?_
   refine gF 0 Tryz.underlying25 ti_3 ?_
   refine gE fun l => gL tU3 ?_
   refine g2 r_eql ?_
   refine gM ?_
   refine G1 r_move ?_
   refine G2 r_seql ?_
   refine gpa ?_
   refine gN <| ge <| tn ?_
   refine gi (fun h => ⟨(dT (aT h).1), (dT (aT h).2)⟩) (fun h => ((aF h).imp (fun h => (dF h)) (fun h => (dF h)))) ?_ ?_
   ·refine gS <| gR <| gN <| ge <| tn <| gr <| br <| tr ?_
    exact gz1
   ·refine gS <| gR <| gM ?_
    refine g1 (fun x => r_slen x tU9) ?_
    refine g2 r_gtr ?_
    refine gN <| ge <| tn ?_
    refine gi dT dF ?_ ?_
    ·refine gS <| gR <| gN <| ge <| tn <| gr <| br <| tr ?_
     exact gz1
    ·refine gk <| bn <| tn <| gS <| gR <| gM ?_
     refine gM ?_
     refine gnP fun t => ?_
     refine gF 2 Tryz.underlying88 ti_25 ?_
     refine gF 2 Tryz.underlying25 ti_9 ?_
     refine wx [] ti_9 fun g m u n p => ge <| tn <| gS <| gR ?_
     refine gN <| ge <| tn <| gr ?_
     exact gz1
def dom_Dom_lay.vc (d : Addr) (am : Int) (an : Str) (ao : Str) (ap : Sl) (g : Sl) (aq : Int) (R : Value → World → Prop) (w : World) : Prop :=
∀ (w5 : World) (az : Nat), New w az w5 → Chg [] w w5 →
∃ (f : Sl), (w5.cell? (d.add 0) = some (Sl.v f)) ∧
CallK Tryz.prog 66 #[.pointer (some d), .int .i64 (f.n : Int), .int .i64 aq, .agg #[.int .i64 am, .string (Bs an), .string (Bs ao), Sl.v ap, Sl.v g]] w5 [az] (fun v w9 => v = .tuple #[] ∧
∃ (aA : Int → World → Prop) (aR : Int → World → Nat),
aA 0 w9 ∧
(∀ (j : Int) (u : World), aA j u →
((j < (g.n : Int)) →
((0 : Int) ≤ j ∧ j < (g.n : Int)) ∧ ∃ aB : Addr, g.a = some aB ∧
∃ (aC : Int) (aD : Str) (aG : Str) (aH : Sl) (aI : Sl), (Cells u (aB.add (j.toNat * 5)) [.int .i64 aC, .string (Bs aD), .string (Bs aG), Sl.v aH, Sl.v aI]) ∧
∀ (ar : World) (aJ : Nat), New u aJ ar → Chg [] u ar →
CallK Tryz.prog 60 #[.pointer (some d), .agg #[.int .i64 aC, .string (Bs aD), .string (Bs aG), Sl.v aH, Sl.v aI], .int .i64 (f.n : Int)] ar [aJ] (fun v aK => ∃ (o : Int), v = .int .i64 o ∧
∀ (p : World), Chg [] aK p →
∃ (r : Sl), (p.cell? (d.add 0) = some (Sl.v r)) ∧
∃ (s : Sl), (p.cell? (d.add 0) = some (Sl.v s)) ∧
∃ q : Addr, (((0 : Int) ≤ (f.n : Int) ∧ (f.n : Int) < (s.n : Int)) ∧ s.a = some q) ∧
∃ (aa : Sl), (p.cell? ((q.add ((f.n : Int).toNat * 8)).add 7) = some (Sl.v aa)) ∧
∀ (x : World) (m : Nat), Ext p x → p.heap.size ≤ m → Box x m 3 [.int .i64 o] → 
∀ (_ : Box x m 3 [.int .i64 o]),
RunK Tryz.prog (Builtin.append_ #[78, 78] 78 #[Sl.v aa, Sl.v (Sl.mk (some ⟨m, 0, none⟩) 1 1)]) x [] (fun v ab => ∃ (y : Sl), v = Sl.v y ∧
(ab.cell? (d.add 0) = some (Sl.v r)) ∧
(ab.cell? (d.add 0) = some (Sl.v s)) ∧
(ab.cell? ((q.add ((f.n : Int).toNat * 8)).add 7) = some (Sl.v aa)) ∧
∀ (ad : World), Chg [] ab ad →
∃ z : Addr, (((0 : Int) ≤ (f.n : Int) ∧ (f.n : Int) < (r.n : Int)) ∧ r.a = some z) ∧
∀ (af : World), Chg [] ad af →
∃ (ah au : Nat) (aL : TypeId) (av : List Value), ((z.add ((f.n : Int).toNat * 8)).add 7) = ⟨ah, au, none⟩ ∧ Box af ah aL av ∧ au + 1 ≤ av.length ∧ (∀ b ∈ [], b ≠ ah) ∧
(∀ ai : World, Chg [ah] af ai → Box ai ah aL (putAt av au [Sl.v y]) →
(I64 (j + 1)) ∧
aA (j + 1) ai ∧ aR (j + 1) ai < aR j u)))) ∧
((¬ (j < (g.n : Int))) →
R (.int .i64 (f.n : Int)) u)))
theorem dom_Dom_lay.ok (d : Addr) (am : Int) (an : Str) (ao : Str) (ap : Sl) (g : Sl) (aq : Int) {R : Value → World → Prop} {w : World} (a4 : dom_Dom_lay.vc d am an ao ap g aq R w) : Calls Tryz.prog 60 #[.pointer (some d), .agg #[.int .i64 am, .string (Bs an), .string (Bs ao), Sl.v ap, Sl.v g], .int .i64 aq] w (Ret R) := by
 refine go _ Tryz.func60 Tryz.ntmps60 a4 ?_
 refine gS <| gR <| nb fun w5 az => ?_
 refine gN <| ge <| tn <| gS <| gR ?_
 refine gM ?_
 refine g1 r_nilCheck ?_
 refine gF 0 Tryz.underlying84 ti_82 <| gT1 ?_
 refine gE fun f => gL tU82 ?_
 refine g1 (fun aM => r_len aM tU82) ?_
 refine gN <| ge <| tn <| gS <| gR ?_
 refine gM ?_
 refine gM ?_
 refine gM ?_
 refine gBN 0 5 Tryz.underlying25 ti_25 ?_
 refine gC [0] Tryz.func66 fun _ w9 => gQ <| ge <| tn <| gS <| gS <| gR ?_
 refine gF 4 Tryz.underlying25 ti_23 ?_
 refine gB 0 tU23 ?_
 refine g1 (fun aM => r_len aM tU23) ?_
 refine gM <| ge <| tn <| gb <| gE fun _ => gE fun mu => ?_
 refine l1 mu (fun j => [(24, .int .i64 j)]) [(0, _), (7, _), (22, _), (23, _)] (fun _ => []) [] [] fun j u _ => gS <| gR ?_
 refine g2 r_lss <| ge <| tn <| gS ?_
 refine gi dT dF ?_ ?_
 ·refine gk <| tn <| gS <| gb <| gS <| gR <| gI1 tU23 ti_25 fun aB => ?_
  refine gE fun aC => gE fun aD => gE fun aG => gE fun aH => gE fun aI => gLN Tryz.underlying25 ti_25 ?_
  refine na ti_25 fun cb aJ => ?_
  refine wn 0 0 ti_25 fun ar => ge <| tn <| gS <| gR ?_
  refine gM ?_
  refine gBN 0 5 Tryz.underlying25 ti_25 ?_
  refine gM <| gT1 ?_
  refine gC [0] Tryz.func60 fun _ aK => gE fun o => gQ ?_
  refine gN <| ge <| tn ?_
  intro cc a5 a6
  have k := a5.ag
  let ax : List (List Nat) := [[], [0], [0, 1], [0, 1, 2], [], [], [5], [5, 6], [5, 6, 7], [], [5, 6, 7, 8, 9], [5, 6, 7, 8, 9, 10], [5, 6, 7, 8, 9, 10, 11], [], [13], [5, 6, 7, 8, 9, 10, 11, 12, 13, 14], [0, 1, 2, 3, 4, 5, 6, 7, 8, 9, 10, 11, 12, 13, 14, 15], [0, 1, 2, 3, 4, 5, 6, 7, 8, 9, 10, 11, 12, 13, 14, 15, 16], [0, 1, 2, 3, 4, 5, 6, 7, 8, 9, 10, 11, 12, 13, 14, 15, 16, 17]]
  refine draw' (by kernel_rfl) fun p a7 => ?_
  have a8 : Chg [] aK p := a7
  have a9 := a6 p    a8
  obtain ⟨r, aS, ba⟩ := a9
  obtain ⟨s, aU, bb⟩ := ba
  obtain ⟨q, ay, bd⟩ := bb
  obtain ⟨aa, aV, bf⟩ := bd
  refine startF (D := ax) (Fs := [0, 1, 2, 3, 4, 5, 6, 7, 8, 9, 10, 11, 12, 13]) (Ef := [(0, fun v _ => v = .pointer (some d)), (1, fun v _ => v = .pointer (some d)), (2, fun v _ => v = .pointer (some (d.add 0))), (3, fun v _ => v = Sl.v r), (4, fun v _ => v = .int .i64 (f.n : Int)), (5, fun v _ => v = .pointer (some d)), (6, fun v _ => v = .pointer (some d)), (7, fun v _ => v = .pointer (some (d.add 0))), (8, fun v _ => v = Sl.v s), (9, fun v _ => v = .int .i64 (f.n : Int)), (10, fun v _ => v = .pointer (some (q.add ((f.n : Int).toNat * 8)))), (11, fun v _ => v = .pointer (some ((q.add ((f.n : Int).toNat * 8)).add 7))), (12, fun v _ => v = Sl.v aa), (13, fun v _ => v = .int .i64 o)]) (by kernel_rfl) ?_
  refine parF (D := ax) (S := [14]) (F := []) (KE := [14]) (E := [(14, fun v w' => ∃ m : Nat, p.heap.size ≤ m ∧ Box w' m 3 [.int .i64 o] ∧ v = Sl.v (Sl.mk (some ⟨m, 0, none⟩) 1 1))]) k rfl (by kernel_rfl) ⟨fun _ _ _ hE ⟨m, h0_, h1_, e⟩ => ⟨m, h0_, (h1_.ext hE), e⟩, fun _ _ _ _ h => h, fun _ _ _ _ h => h, fun _ _ _ _ h => h, fun _ _ _ _ h => h, fun _ _ _ _ h => h, fun _ _ _ _ h => h, fun _ _ _ _ h => h, fun _ _ _ _ h => h, fun _ _ _ _ h => h, fun _ _ _ _ h => h, fun _ _ _ _ h => h, fun _ _ _ _ h => h, fun _ _ _ _ h => h, fun _ _ _ _ h => h, trivial⟩ ⟨?_, ?_, ?_, ?_, ?_, ?_, ?_, ?_, ?_, ?_, ?_, ?_, ?_, ?_, ?_, trivial⟩ ?_
  ·intro a w hT
   have hAp := hT.ag k [] trivial (by kernel_rfl)
   have hAp := hAp.add (t := 45) (v := .int .i64 o) (hT.vals 13 rfl 45 rfl)
   exact opk_new (fun B => .slice (some ⟨B, 0, none⟩) 1 1) hAp rfl (r_buildSlice (vs := #[(0, .int .i64 o)]) (cs := [.int .i64 o]) (map_arr2 (ml2_cons (hAp.get rfl) (ml2_nil))) tU78 ti_3 rfl rfl (by kernel_rfl)) fun _ cd m bg bi bj _ e => ⟨_, e, bg, fun _ => ⟨m, Nat.le_trans hT.chg.size bi.ge, bj, rfl⟩⟩
  ·intro a w hT
   have hAp := hT.ag k [(0, .pointer (some d))] ⟨rfl, trivial⟩ (by kernel_rfl)
   exact ovr hAp rfl (r_move (hAp.get rfl)) fun _ => Eq.refl _
  ·intro a w hT
   have hAp := hT.ag k [] trivial (by kernel_rfl)
   have hAp := hAp.add (t := 32) (v := .pointer (some d)) (hT.vals 0 rfl 32 rfl)
   exact ovr hAp rfl (r_nilCheck (hAp.get rfl)) fun _ => Eq.refl _
  ·intro a w hT
   have hAp := hT.ag k [] trivial (by kernel_rfl)
   have hAp := hAp.add (t := 33) (v := .pointer (some d)) (hT.vals 1 rfl 33 rfl)
   exact ovr hAp rfl (r_fieldAddr (hAp.get rfl) Tryz.underlying84 rfl ti_82 (by decide)) fun _ => Eq.refl _
  ·intro a w hT
   have hAp := hT.ag k [] trivial (by kernel_rfl)
   have hAp := hAp.add (t := 34) (v := .pointer (some (d.add 0))) (hT.vals 2 rfl 34 rfl)
   exact ovr hAp rfl (r_load1 tU82 rfl (hAp.get rfl) (Ext.cell hT.chg aS)) fun _ => Eq.refl _
  ·intro a w hT
   have hAp := hT.ag k [(7, .int .i64 (f.n : Int))] ⟨rfl, trivial⟩ (by kernel_rfl)
   exact ovr hAp rfl (r_move (hAp.get rfl)) fun _ => Eq.refl _
  ·intro a w hT
   have hAp := hT.ag k [(0, .pointer (some d))] ⟨rfl, trivial⟩ (by kernel_rfl)
   exact ovr hAp rfl (r_move (hAp.get rfl)) fun _ => Eq.refl _
  ·intro a w hT
   have hAp := hT.ag k [] trivial (by kernel_rfl)
   have hAp := hAp.add (t := 37) (v := .pointer (some d)) (hT.vals 5 rfl 37 rfl)
   exact ovr hAp rfl (r_nilCheck (hAp.get rfl)) fun _ => Eq.refl _
  ·intro a w hT
   have hAp := hT.ag k [] trivial (by kernel_rfl)
   have hAp := hAp.add (t := 38) (v := .pointer (some d)) (hT.vals 6 rfl 38 rfl)
   exact ovr hAp rfl (r_fieldAddr (hAp.get rfl) Tryz.underlying84 rfl ti_82 (by decide)) fun _ => Eq.refl _
  ·intro a w hT
   have hAp := hT.ag k [] trivial (by kernel_rfl)
   have hAp := hAp.add (t := 39) (v := .pointer (some (d.add 0))) (hT.vals 7 rfl 39 rfl)
   exact ovr hAp rfl (r_load1 tU82 rfl (hAp.get rfl) (Ext.cell hT.chg aU)) fun _ => Eq.refl _
  ·intro a w hT
   have hAp := hT.ag k [(7, .int .i64 (f.n : Int))] ⟨rfl, trivial⟩ (by kernel_rfl)
   exact ovr hAp rfl (r_move (hAp.get rfl)) fun _ => Eq.refl _
  ·intro a w hT
   have hAp := hT.ag k [] trivial (by kernel_rfl)
   have hAp := hAp.add (t := 40) (v := Sl.v s) (hT.vals 8 rfl 40 rfl)
   have hAp := hAp.add (t := 41) (v := .int .i64 (f.n : Int)) (hT.vals 9 rfl 41 rfl)
   exact ovr hAp rfl (r_indexAddr (hAp.get rfl) (hAp.get rfl) tU82 ti_88 ay.1 ay.2) fun _ => Eq.refl _
  ·intro a w hT
   have hAp := hT.ag k [] trivial (by kernel_rfl)
   have hAp := hAp.add (t := 42) (v := .pointer (some (q.add ((f.n : Int).toNat * 8)))) (hT.vals 10 rfl 42 rfl)
   exact ovr hAp rfl (r_fieldAddr (hAp.get rfl) Tryz.underlying88 rfl ti_78 (by decide)) fun _ => Eq.refl _
  ·intro a w hT
   have hAp := hT.ag k [] trivial (by kernel_rfl)
   have hAp := hAp.add (t := 43) (v := .pointer (some ((q.add ((f.n : Int).toNat * 8)).add 7))) (hT.vals 11 rfl 43 rfl)
   exact ovr hAp rfl (r_load1 tU78 rfl (hAp.get rfl) (Ext.cell hT.chg aV)) fun _ => Eq.refl _
  ·intro a w hT
   have hAp := hT.ag k [(10, .int .i64 o)] ⟨rfl, trivial⟩ (by kernel_rfl)
   exact ovr hAp rfl (r_move (hAp.get rfl)) fun _ => Eq.refl _
  ·intro cf x al bk bl
   have bo := bk [(0, .pointer (some d)), (7, .int .i64 (f.n : Int)), (10, .int .i64 o), (22, Sl.v g), (23, .int .i64 (g.n : Int)), (24, .int .i64 j)] ⟨rfl, rfl, rfl, rfl, rfl, rfl, trivial⟩ (by kernel_rfl)
   obtain ⟨m, bp, aX, bq⟩ := bl 14 rfl 46 rfl
   have l := bo.add bq
   have cg : Chg [] p x := al
   have bt := Ext.cell al aS
   have bu := Ext.cell al aU
   have bv := Ext.cell al aV
   have bx := bf x m al bp aX
   refine oneF (c := 15) l rfl (by kernel_rfl) (constF ⟨fun _ _ _ h => h, fun _ _ _ h => h, fun _ _ _ h => h, fun _ _ _ h => h, fun _ _ _ h => h, fun _ _ _ h => h, fun _ _ _ h => h, fun _ _ _ h => h, fun _ _ _ h => h, fun _ _ _ h => h, fun _ _ _ h => h, fun _ _ _ h => h, fun _ _ _ h => h, fun _ _ _ h => h, trivial⟩) ⟨?_, ?_, ?_, ?_, ?_, ?_, ?_, ?_, ?_, ?_, ?_, ?_, ?_, ?_, trivial⟩ ?_
   ·intro a hT
    have hAp := hT.ag l [(0, .pointer (some d))] ⟨rfl, trivial⟩ (by kernel_rfl)
    exact opk_val hAp rfl (r_move (hAp.get rfl)) fun _ _ e => ⟨_, e, rfl, fun _ => Eq.refl _⟩
   ·intro a hT
    have hAp := hT.ag l [] trivial (by kernel_rfl)
    have hAp := hAp.add (t := 32) (v := .pointer (some d)) (hT.vals 0 rfl 32 rfl)
    exact opk_val hAp rfl (r_nilCheck (hAp.get rfl)) fun _ _ e => ⟨_, e, rfl, fun _ => Eq.refl _⟩
   ·intro a hT
    have hAp := hT.ag l [] trivial (by kernel_rfl)
    have hAp := hAp.add (t := 33) (v := .pointer (some d)) (hT.vals 1 rfl 33 rfl)
    exact opk_val hAp rfl (r_fieldAddr (hAp.get rfl) Tryz.underlying84 rfl ti_82 (by decide)) fun _ _ e => ⟨_, e, rfl, fun _ => Eq.refl _⟩
   ·intro a hT
    have hAp := hT.ag l [] trivial (by kernel_rfl)
    have hAp := hAp.add (t := 34) (v := .pointer (some (d.add 0))) (hT.vals 2 rfl 34 rfl)
    exact opk_val hAp rfl (r_load1 tU82 rfl (hAp.get rfl) (Ext.cell hT.chg bt)) fun _ _ e => ⟨_, e, rfl, fun _ => Eq.refl _⟩
   ·intro a hT
    have hAp := hT.ag l [(7, .int .i64 (f.n : Int))] ⟨rfl, trivial⟩ (by kernel_rfl)
    exact opk_val hAp rfl (r_move (hAp.get rfl)) fun _ _ e => ⟨_, e, rfl, fun _ => Eq.refl _⟩
   ·intro a hT
    have hAp := hT.ag l [(0, .pointer (some d))] ⟨rfl, trivial⟩ (by kernel_rfl)
    exact opk_val hAp rfl (r_move (hAp.get rfl)) fun _ _ e => ⟨_, e, rfl, fun _ => Eq.refl _⟩
   ·intro a hT
    have hAp := hT.ag l [] trivial (by kernel_rfl)
    have hAp := hAp.add (t := 37) (v := .pointer (some d)) (hT.vals 5 rfl 37 rfl)
    exact opk_val hAp rfl (r_nilCheck (hAp.get rfl)) fun _ _ e => ⟨_, e, rfl, fun _ => Eq.refl _⟩
   ·intro a hT
    have hAp := hT.ag l [] trivial (by kernel_rfl)
    have hAp := hAp.add (t := 38) (v := .pointer (some d)) (hT.vals 6 rfl 38 rfl)
    exact opk_val hAp rfl (r_fieldAddr (hAp.get rfl) Tryz.underlying84 rfl ti_82 (by decide)) fun _ _ e => ⟨_, e, rfl, fun _ => Eq.refl _⟩
   ·intro a hT
    have hAp := hT.ag l [] trivial (by kernel_rfl)
    have hAp := hAp.add (t := 39) (v := .pointer (some (d.add 0))) (hT.vals 7 rfl 39 rfl)
    exact opk_val hAp rfl (r_load1 tU82 rfl (hAp.get rfl) (Ext.cell hT.chg bu)) fun _ _ e => ⟨_, e, rfl, fun _ => Eq.refl _⟩
   ·intro a hT
    have hAp := hT.ag l [(7, .int .i64 (f.n : Int))] ⟨rfl, trivial⟩ (by kernel_rfl)
    exact opk_val hAp rfl (r_move (hAp.get rfl)) fun _ _ e => ⟨_, e, rfl, fun _ => Eq.refl _⟩
   ·intro a hT
    have hAp := hT.ag l [] trivial (by kernel_rfl)
    have hAp := hAp.add (t := 40) (v := Sl.v s) (hT.vals 8 rfl 40 rfl)
    have hAp := hAp.add (t := 41) (v := .int .i64 (f.n : Int)) (hT.vals 9 rfl 41 rfl)
    exact opk_val hAp rfl (r_indexAddr (hAp.get rfl) (hAp.get rfl) tU82 ti_88 ay.1 ay.2) fun _ _ e => ⟨_, e, rfl, fun _ => Eq.refl _⟩
   ·intro a hT
    have hAp := hT.ag l [] trivial (by kernel_rfl)
    have hAp := hAp.add (t := 42) (v := .pointer (some (q.add ((f.n : Int).toNat * 8)))) (hT.vals 10 rfl 42 rfl)
    exact opk_val hAp rfl (r_fieldAddr (hAp.get rfl) Tryz.underlying88 rfl ti_78 (by decide)) fun _ _ e => ⟨_, e, rfl, fun _ => Eq.refl _⟩
   ·intro a hT
    have hAp := hT.ag l [] trivial (by kernel_rfl)
    have hAp := hAp.add (t := 43) (v := .pointer (some ((q.add ((f.n : Int).toNat * 8)).add 7))) (hT.vals 11 rfl 43 rfl)
    exact opk_val hAp rfl (r_load1 tU78 rfl (hAp.get rfl) (Ext.cell hT.chg bv)) fun _ _ e => ⟨_, e, rfl, fun _ => Eq.refl _⟩
   ·intro a hT
    have hAp := hT.ag l [(10, .int .i64 o)] ⟨rfl, trivial⟩ (by kernel_rfl)
    exact opk_val hAp rfl (r_move (hAp.get rfl)) fun _ _ e => ⟨_, e, rfl, fun _ => Eq.refl _⟩
   ·intro bz hT
    have bA := hT.ag l [(0, .pointer (some d)), (7, .int .i64 (f.n : Int)), (10, .int .i64 o), (22, Sl.v g), (23, .int .i64 (g.n : Int)), (24, .int .i64 j), (46, Sl.v (Sl.mk (some ⟨m, 0, none⟩) 1 1))] ⟨rfl, rfl, rfl, rfl, rfl, rfl, rfl, trivial⟩ (by kernel_rfl)
    have bB : bz.tmps.getD 44 undef = Sl.v aa := hT.vals 12 rfl 44 rfl
    have aN := bA.add bB
    have bC := bx aX
    refine (opk_run aN rfl (fun _ _ hr => r_append (aN.get rfl) (aN.get rfl) hr) bC fun ch ci ab bD bF cj ck bG => ?_)
    refine ⟨_, bF, ?_⟩
    obtain ⟨y, rfl, bH⟩ := bG
    obtain ⟨aY, bI⟩ := bH
    obtain ⟨cl, bJ⟩ := bI
    obtain ⟨cm, bK⟩ := bJ
    refine PRF_drop (X := [5, 6, 7, 8, 9, 10, 11, 12, 13]) (Fs' := [0, 1, 2, 3, 4]) bD (by kernel_rfl) fun cn bL co => ?_
    have aj := bL [(0, .pointer (some d)), (7, .int .i64 (f.n : Int)), (22, Sl.v g), (23, .int .i64 (g.n : Int)), (24, .int .i64 j), (47, Sl.v y)] ⟨rfl, rfl, rfl, rfl, rfl, rfl, trivial⟩ (by kernel_rfl)
    refine joinF aj (by kernel_rfl) ⟨fun _ _ _ _ h => h, fun _ _ _ _ h => h, fun _ _ _ _ h => h, fun _ _ _ _ h => h, fun _ _ _ _ h => h, trivial⟩ ⟨?_, ?_, ?_, ?_, ?_, trivial⟩ ?_
    ·intro a w hT
     have hAp := hT.ag aj [(0, .pointer (some d))] ⟨rfl, trivial⟩ (by kernel_rfl)
     exact ovr hAp rfl (r_move (hAp.get rfl)) fun _ => Eq.refl _
    ·intro a w hT
     have hAp := hT.ag aj [] trivial (by kernel_rfl)
     have hAp := hAp.add (t := 32) (v := .pointer (some d)) (hT.vals 0 rfl 32 rfl)
     exact ovr hAp rfl (r_nilCheck (hAp.get rfl)) fun _ => Eq.refl _
    ·intro a w hT
     have hAp := hT.ag aj [] trivial (by kernel_rfl)
     have hAp := hAp.add (t := 33) (v := .pointer (some d)) (hT.vals 1 rfl 33 rfl)
     exact ovr hAp rfl (r_fieldAddr (hAp.get rfl) Tryz.underlying84 rfl ti_82 (by decide)) fun _ => Eq.refl _
    ·intro a w hT
     have hAp := hT.ag aj [] trivial (by kernel_rfl)
     have hAp := hAp.add (t := 34) (v := .pointer (some (d.add 0))) (hT.vals 2 rfl 34 rfl)
     exact ovr hAp rfl (r_load1 tU82 rfl (hAp.get rfl) (Ext.cell hT.chg aY)) fun _ => Eq.refl _
    ·intro a w hT
     have hAp := hT.ag aj [(7, .int .i64 (f.n : Int))] ⟨rfl, trivial⟩ (by kernel_rfl)
     exact ovr hAp rfl (r_move (hAp.get rfl)) fun _ => Eq.refl _
    ·intro aZ ad a0 bM a1
     have bN := bM [(0, .pointer (some d)), (7, .int .i64 (f.n : Int)), (22, Sl.v g), (23, .int .i64 (g.n : Int)), (24, .int .i64 j), (47, Sl.v y)] ⟨rfl, rfl, rfl, rfl, rfl, rfl, trivial⟩ (by kernel_rfl)
     have bO : aZ.tmps.getD 35 undef = Sl.v r := a1 3 rfl 35 rfl
     have bP := bN.add bO
     have bQ : aZ.tmps.getD 36 undef = .int .i64 (f.n : Int) := a1 4 rfl 36 rfl
     have aO := bP.add bQ
     have bR : Chg [] ab ad := a0
     have cp := Ext.cell a0 aY
     have bS := bK ad    bR
     obtain ⟨z, a2, bT⟩ := bS
     refine par (D := ax) (S := [16, 17]) (F := []) (V := VL [(16, fun v _ => v = .pointer (some (z.add ((f.n : Int).toNat * 8)))), (17, fun v _ => v = .pointer (some ((z.add ((f.n : Int).toNat * 8)).add 7)))]) aO (by kernel_rfl) ⟨fun _ _ _ _ h => h, fun _ _ _ _ h => h, trivial⟩ ⟨?_, ?_, trivial⟩ ?_
     ·intro a w hT
      have hAp := hT.ag aO [(35, Sl.v r), (36, .int .i64 (f.n : Int))] ⟨rfl, rfl, trivial⟩ (by kernel_rfl)
      exact ovr hAp rfl (r_indexAddr (hAp.get rfl) (hAp.get rfl) tU82 ti_88 a2.1 a2.2) fun _ => Eq.refl _
     ·intro a w hT
      have hAp := hT.ag aO [] trivial (by kernel_rfl)
      have hAp := hAp.add (t := 48) (v := .pointer (some (z.add ((f.n : Int).toNat * 8)))) (hT.vals 16 rfl 48 rfl)
      exact ovr hAp rfl (r_fieldAddr (hAp.get rfl) Tryz.underlying88 rfl ti_78 (by decide)) fun _ => Eq.refl _
     ·intro bU af bV bX bY
      have bZ := bX [(0, .pointer (some d)), (7, .int .i64 (f.n : Int)), (22, Sl.v g), (23, .int .i64 (g.n : Int)), (24, .int .i64 j), (47, Sl.v y)] ⟨rfl, rfl, rfl, rfl, rfl, rfl, trivial⟩ (by kernel_rfl)
      have b0 : bU.tmps.getD 49 undef = .pointer (some ((z.add ((f.n : Int).toNat * 8)).add 7)) := bY 17 rfl 49 rfl
      have aP := bZ.add b0
      have b1 : Chg [] ad af := bV
      have b2 := bT af    b1
      obtain ⟨ah, au, aL, av, b3, a3, b4, cq, b5⟩ := b2
      refine one (D := ax) (i := 18) rfl (by kernel_rfl) (opk_store aP a3 (r_store (vs := [Sl.v y]) (((aP.get rfl)).trans (congrArg (fun a => Value.pointer (some a)) b3)) (aP.get rfl) rfl ti_78 a3 (Nat.ble_eq_true_of_le b4) (ones_all _ rfl)) fun cr ai b6 b7 b8 => ?_)
      have b9 := b5 ai b6 b7
      refine PR_end (by kernel_rfl) ?_
      have ca := b8.kp [(0, .pointer (some d)), (7, .int .i64 (f.n : Int)), (22, Sl.v g), (23, .int .i64 (g.n : Int)), (24, .int .i64 j)] rfl
      refine gK (bs := []) (N := []) ca (Chg.refl [] _) trivial (by simp) trivial (by simp) b9 ?_
      refine bn <| tn <| gR <| g2s r_addI ?_
      refine gM <| ge ?_
      exact k1 []
 ·refine gx <| te <| te <| bh <| tn <| gS <| gR <| gM ?_
  refine gN <| ge <| tn <| gr ?_
  exact gz1
def dom_Dom_node.vc (b : Addr) (d : Int) (R : Value → World → Prop) (w : World) : Prop :=
∃ (h : Option Nat), (w.cell? (b.add 1) = some (.map h)) ∧
∃ (c : Int) (f : Bool), ((Instr.lookup 81 (.map h) (.int .i64 d) true).run Tryz.prog w = .ok (.tuple #[.int .i64 c, .bool f]) w) ∧
((f = false) →
R (.pointer none) w) ∧
((f = true) →
∃ (g : Sl), (w.cell? (b.add 0) = some (Sl.v g)) ∧
((0 : Int) ≤ c ∧ c < (g.n : Int)) ∧ ∃ i : Addr, g.a = some i ∧
R (.pointer (some (i.add (c.toNat * 8)))) w)
theorem dom_Dom_node.ok (b : Addr) (d : Int) {R : Value → World → Prop} {w : World} (j : dom_Dom_node.vc b d R w) : Calls Tryz.prog 61 #[.pointer (some b), .int .i64 d] w (Ret R) := by
 refine go _ Tryz.func61 Tryz.ntmps61 j ?_
 refine gS <| gR <| gN <| ge <| tn <| gS <| gR ?_
 refine gM ?_
 refine g1 r_nilCheck ?_
 refine gF 1 Tryz.underlying84 ti_81 ?_
 refine gE fun h => gL tU81 ?_
 refine gM ?_
 refine gE fun c => gE fun f => gA fun hx => ev (fun _ s => r_lookup (s.ag.opv rfl) (s.ag.opv rfl) hx) ?_
 refine gM ?_
 refine gx1 ?_
 refine gx1 ?_
 refine gN ?_
 refine gN <| ge <| tn <| gS <| gS <| gR ?_
 refine gM ?_
 refine g1 r_not <| ge <| tn ?_
 refine gi nT nF ?_ ?_
 ·refine gS <| gR <| gN <| ge <| tn <| gr <| tr ?_
  exact gz1
 ·refine gk <| tn <| gS <| gR <| gM ?_
  refine g1 r_nilCheck ?_
  refine gF 0 Tryz.underlying84 ti_82 ?_
  refine gE fun g => gL tU82 ?_
  refine gM ?_
  refine gI1 tU82 ti_88 fun i => ?_
  refine gN <| ge <| tn <| gr ?_
  exact gz1
def dom_Dom_Has.vc (a : Addr) (b : Int) (R : Value → World → Prop) (w : World) : Prop :=
CallK Tryz.prog 61 #[.pointer (some a), .int .i64 b] w [] (fun v d => ∃ (c : Option Addr), v = .pointer c ∧
R (.bool (!(Option.isNone c))) d)
theorem dom_Dom_Has.ok (a : Addr) (b : Int) {R : Value → World → Prop} {w : World} (f : dom_Dom_Has.vc a b R w) : Calls Tryz.prog 63 #[.pointer (some a), .int .i64 b] w (Ret R) := by
 refine go _ Tryz.func63 Tryz.ntmps63 f ?_
 refine gS <| gR <| gN <| ge <| tn <| gS <| gR ?_
 refine gM ?_
 refine gM ?_
 refine gC [] Tryz.func61 fun _ d => gE fun c => gQ ?_
 refine g2 (fun g h => r_pnnil (o := c) g h tU85) ?_
 refine gN <| ge <| tn <| gr ?_
 exact gz1
def dom_node_holds.vc (a : Addr) (b : Int) (R : Value → World → Prop) (w : World) : Prop :=
∃ (c : Int), (w.cell? ((a.add 2).add 0) = some (.int .i64 c)) ∧
∃ (d : Int), (((¬ (c = 1))) → w.cell? ((a.add 2).add 0) = some (.int .i64 d)) ∧
R (.bool ((decide (c = 1)) || ((decide (d = 2)) && (decide (b ≠ 5))))) w
theorem dom_node_holds.ok (a : Addr) (b : Int) {R : Value → World → Prop} {w : World} (f : dom_node_holds.vc a b R w) : Calls Tryz.prog 64 #[.pointer (some a), .int .i64 b] w (Ret R) := by
 refine go _ Tryz.func64 Tryz.ntmps64 f ?_
 refine gS <| gR <| gN <| ge <| tn <| gS <| gR ?_
 refine gM ?_
 refine g1 r_nilCheck ?_
 refine gF 2 Tryz.underlying88 ti_25 ?_
 refine gF 0 Tryz.underlying25 ti_3 ?_
 refine gE fun c => gL tU3 ?_
 refine g2 r_eql ?_
 refine gM ?_
 refine G1 r_move ?_
 refine G1 r_nilCheck ?_
 refine GF 2 Tryz.underlying88 ti_25 ?_
 refine GF 0 Tryz.underlying25 ti_3 ?_
 refine gE fun d => GLd tU3 (fun hg => (dF (g_f hg))) ?_
 refine G2 r_eql ?_
 refine G1 r_move ?_
 refine G1 r_move ?_
 refine G2 r_neq ?_
 refine Gpa ?_
 refine gpo ?_
 refine gN <| ge <| tn <| gr ?_
 exact gz1
def dom_Dom_level.vc (c : Addr) (d : Int) (R : Value → World → Prop) (w : World) : Prop :=
∃ (i : Int → Int → World → Prop) (l : Int → Int → World → Nat),
i d 0 w ∧
(∀ (b : Int) (a : Int) (f : World), i b a f →
CallK Tryz.prog 63 #[.pointer (some c), .int .i64 b] f [] (fun v j => ∃ (g : Bool), v = .bool g ∧
((g = true) →
(I64 (a + 1)) ∧
CallK Tryz.prog 92 #[.pointer (some c), .int .i64 b] j [] (fun v k => ∃ (h : Int), v = .int .i64 h ∧
i h (a + 1) k ∧ l h (a + 1) k < l b a f)) ∧
((g = false) →
R (.int .i64 a) j)))
theorem dom_Dom_level.ok (c : Addr) (d : Int) {R : Value → World → Prop} {w : World} (m : dom_Dom_level.vc c d R w) : Calls Tryz.prog 65 #[.pointer (some c), .int .i64 d] w (Ret R) := by
 refine go _ Tryz.func65 Tryz.ntmps65 m ?_
 refine gS <| gR <| gN <| ge <| tn <| gS <| gR ?_
 refine gN <| ge <| tn <| gS <| gb <| gE fun _ => gE fun mu => ?_
 refine l2 mu (fun b a => [(1, .int .i64 b), (5, .int .i64 a)]) [(0, _)] (fun _ _ => []) [] [] fun b a f _ => gS <| gS <| gR ?_
 refine gM ?_
 refine gM ?_
 refine gC [] Tryz.func63 fun _ j => gE fun g => gQ <| ge <| tn ?_
 refine gi id id ?_ ?_
 ·refine gk <| tn <| gb <| gS <| gR <| gM ?_
  refine g2s r_addI ?_
  refine gN <| ge <| tn <| gR ?_
  refine gM ?_
  refine gM ?_
  refine gC [] Tryz.func92 fun _ k => gE fun h => gQ ?_
  refine gN <| ge <| bn ?_
  exact k2 []
 ·refine gx <| te <| te <| bh <| tn <| gS <| gR <| gM ?_
  refine gN <| ge <| tn <| gr ?_
  exact gz1
def dom_Dom_put.vc (d : Addr) (f : Int) (j : Int) (k : Int) (l : Str) (m : Str) (af : Sl) (al : Sl) (R : Value → World → Prop) (w : World) : Prop :=
∀ (w8 : World) (p : Nat), New w p w8 → Chg [] w w8 →
CallK Tryz.prog 62 #[Sl.v af] w8 [p] (fun v aB => ∃ (o : Sl), v = Sl.v o ∧
∀ (ab : World), Chg [p] aB ab →
∃ (am : Option Nat), (ab.cell? (d.add 1) = some (.map am)) ∧
∃ (an : Sl), (ab.cell? (d.add 0) = some (Sl.v an)) ∧
∀ (ao : World), Chg [] ab ao →
RunU Tryz.prog (Instr.mapUpdate 81 (.map am) (.int .i64 f) (.int .i64 (an.n : Int))) ao [p] (fun ap =>
∀ (r : World), Chg [] ap r →
∃ (s : Sl), (r.cell? (d.add 0) = some (Sl.v s)) ∧
∀ (u : World) (g : Nat), Ext r u → r.heap.size ≤ g → Box u g 88 [.int .i64 f, .int .i64 j, .int .i64 k, .string (Bs l), .string (Bs m), Sl.v o, Sl.v Sl.nil, Sl.v Sl.nil] → 
∀ (_ : Box u g 88 [.int .i64 f, .int .i64 j, .int .i64 k, .string (Bs l), .string (Bs m), Sl.v o, Sl.v Sl.nil, Sl.v Sl.nil]),
RunK Tryz.prog (Builtin.append_ #[82, 82] 82 #[Sl.v s, Sl.v (Sl.mk (some ⟨g, 0, none⟩) 1 1)]) u [p] (fun v aq => ∃ (x : Sl), v = Sl.v x ∧
∀ (y : World), Chg [] aq y →
∀ (z : World), Chg [] y z →
∃ (aa ai : Nat) (ar : TypeId) (aj : List Value), (d.add 0) = ⟨aa, ai, none⟩ ∧ Box z aa ar aj ∧ ai + 1 ≤ aj.length ∧ (∀ b ∈ [p], b ≠ aa) ∧
(∀ ad : World, Chg [aa] z ad → Box ad aa ar (putAt aj ai [Sl.v x]) →
R (.tuple #[]) ad))))
theorem dom_Dom_put.ok (d : Addr) (f : Int) (j : Int) (k : Int) (l : Str) (m : Str) (af : Sl) (al : Sl) {R : Value → World → Prop} {w : World} (aO : dom_Dom_put.vc d f j k l m af al R w) : Calls Tryz.prog 66 #[.pointer (some d), .int .i64 f, .int .i64 j, .agg #[.int .i64 k, .string (Bs l), .string (Bs m), Sl.v af, Sl.v al]] w (Ret R) := by
 refine go _ Tryz.func66 Tryz.ntmps66 aO ?_
 refine gS <| gR <| nb fun w6 p => ge <| tn <| gS <| gR ?_
 refine gF 4 Tryz.underlying25 ti_23 ?_
 refine wn 0 0 ti_23 fun w8 => ge <| tn <| gS <| gR ?_
 refine gF 3 Tryz.underlying25 ti_22 ?_
 refine gB 0 tU22 <| gT1 ?_
 refine gC [0] Tryz.func62 fun _ aB => gE fun o => gQ ?_
 refine gF 3 Tryz.underlying25 ti_22 ?_
 refine wo 0 ti_22 fun bR => ge <| tn <| gS ?_
 refine gD fun ab => gT0 ?_
 refine gW 0 10 [] ?_
 refine gM ?_
 refine g1 r_nilCheck ?_
 refine gF 1 Tryz.underlying84 ti_81 ?_
 refine gE fun am => gL tU81 ?_
 refine gM ?_
 refine gM ?_
 refine g1 r_nilCheck ?_
 refine gF 0 Tryz.underlying84 ti_82 ?_
 refine gE fun an => gL tU82 ?_
 refine g1 (fun aP => r_len aP tU82) <| geT fun ao => ?_
 refine gO 10 <| gT0 ?_
 refine gU3 [0] r_mapUpdate fun ap => geO ?_
 refine gZ <| tn ?_
 intro bS aC aQ
 have q := aC.ag
 have aR := aC.bx 0 rfl
 let ak : List (List Nat) := [[], [], [1], [1, 2], [1, 2, 3], [], [], [], [5, 6, 7], [5, 6, 7, 8], [1, 2, 3, 4, 5, 6, 7, 8, 9], [0, 1, 2, 3, 4, 5, 6, 7, 8, 9, 10], [0, 1, 2, 3, 4, 5, 6, 7, 8, 9, 10, 11], [0, 1, 2, 3, 4, 5, 6, 7, 8, 9, 10, 11, 12]]
 refine draw' (by kernel_rfl) fun r aD => ?_
 have au := aR.ext aD
 have aS : Chg [] ap r := aD
 have aU := aQ r    aS
 refine startF (D := ak) (Fs := [0, 1, 5, 6, 7, 8]) (Ef := [(0, fun v _ => v = .pointer (some d)), (1, fun v _ => v = .pointer (some d)), (5, fun v _ => v = .int .i64 f), (6, fun v _ => v = .int .i64 j), (7, fun v _ => v = .agg #[.int .i64 k, .string (Bs l), .string (Bs m), Sl.v o, Sl.v Sl.nil]), (8, fun v _ => v = .agg #[.int .i64 f, .int .i64 j, .int .i64 k, .string (Bs l), .string (Bs m), Sl.v o, Sl.v Sl.nil, Sl.v Sl.nil])]) (by kernel_rfl) ?_
 obtain ⟨s, aV, aX⟩ := aU
 refine parF (D := ak) (S := [2, 3, 4, 9]) (F := []) (KE := [2, 3, 4, 9]) (E := [(2, fun v _ => v = .pointer (some d)), (3, fun v _ => v = .pointer (some (d.add 0))), (4, fun v _ => v = Sl.v s), (9, fun v w' => ∃ g : Nat, r.heap.size ≤ g ∧ Box w' g 88 [.int .i64 f, .int .i64 j, .int .i64 k, .string (Bs l), .string (Bs m), Sl.v o, Sl.v Sl.nil, Sl.v Sl.nil] ∧ v = Sl.v (Sl.mk (some ⟨g, 0, none⟩) 1 1))]) q rfl (by kernel_rfl) ⟨fun _ _ _ _ h => h, fun _ _ _ _ h => h, fun _ _ _ _ h => h, fun _ _ _ hE ⟨g, h0_, h1_, e⟩ => ⟨g, h0_, (h1_.ext hE), e⟩, fun _ _ _ _ h => h, fun _ _ _ _ h => h, fun _ _ _ _ h => h, fun _ _ _ _ h => h, fun _ _ _ _ h => h, fun _ _ _ _ h => h, trivial⟩ ⟨?_, ?_, ?_, ?_, ?_, ?_, ?_, ?_, ?_, ?_, trivial⟩ ?_
 ·intro a w hT
  have hAp := hT.ag q [] trivial (by kernel_rfl)
  have hAp := hAp.add (t := 24) (v := .pointer (some d)) (hT.vals 1 rfl 24 rfl)
  exact ovr hAp rfl (r_nilCheck (hAp.get rfl)) fun _ => Eq.refl _
 ·intro a w hT
  have hAp := hT.ag q [] trivial (by kernel_rfl)
  have hAp := hAp.add (t := 25) (v := .pointer (some d)) (hT.vals 2 rfl 25 rfl)
  exact ovr hAp rfl (r_fieldAddr (hAp.get rfl) Tryz.underlying84 rfl ti_82 (by decide)) fun _ => Eq.refl _
 ·intro a w hT
  have hAp := hT.ag q [] trivial (by kernel_rfl)
  have hAp := hAp.add (t := 26) (v := .pointer (some (d.add 0))) (hT.vals 3 rfl 26 rfl)
  exact ovr hAp rfl (r_load1 tU82 rfl (hAp.get rfl) (Ext.cell hT.chg aV)) fun _ => Eq.refl _
 ·intro a w hT
  have hAp := hT.ag q [] trivial (by kernel_rfl)
  have hAp := hAp.add (t := 31) (v := .agg #[.int .i64 f, .int .i64 j, .int .i64 k, .string (Bs l), .string (Bs m), Sl.v o, Sl.v Sl.nil, Sl.v Sl.nil]) (hT.vals 8 rfl 31 rfl)
  exact opk_new (fun B => .slice (some ⟨B, 0, none⟩) 1 1) hAp rfl (r_buildSlice (vs := #[(0, .agg #[.int .i64 f, .int .i64 j, .int .i64 k, .string (Bs l), .string (Bs m), Sl.v o, Sl.v Sl.nil, Sl.v Sl.nil])]) (cs := [.int .i64 f, .int .i64 j, .int .i64 k, .string (Bs l), .string (Bs m), Sl.v o, Sl.v Sl.nil, Sl.v Sl.nil]) (map_arr2 (ml2_cons (hAp.get rfl) (ml2_nil))) tU82 ti_88 rfl rfl (by kernel_rfl)) fun _ bT g aY aZ a0 _ e => ⟨_, e, aY, fun _ => ⟨g, Nat.le_trans hT.chg.size aZ.ge, a0, rfl⟩⟩
 ·intro a w hT
  have hAp := hT.ag q [(0, .pointer (some d))] ⟨rfl, trivial⟩ (by kernel_rfl)
  exact ovr hAp rfl (r_move (hAp.get rfl)) fun _ => Eq.refl _
 ·intro a w hT
  have hAp := hT.ag q [(0, .pointer (some d))] ⟨rfl, trivial⟩ (by kernel_rfl)
  exact ovr hAp rfl (r_move (hAp.get rfl)) fun _ => Eq.refl _
 ·intro a w hT
  have hAp := hT.ag q [(1, .int .i64 f)] ⟨rfl, trivial⟩ (by kernel_rfl)
  exact ovr hAp rfl (r_move (hAp.get rfl)) fun _ => Eq.refl _
 ·intro a w hT
  have hAp := hT.ag q [(2, .int .i64 j)] ⟨rfl, trivial⟩ (by kernel_rfl)
  exact ovr hAp rfl (r_move (hAp.get rfl)) fun _ => Eq.refl _
 ·intro a w hT
  have hAp := hT.ag q [(7, pB p 0)] ⟨rfl, trivial⟩ (by kernel_rfl)
  exact ovr hAp rfl (r_loadN (cs := [.int .i64 k, .string (Bs l), .string (Bs m), Sl.v o, Sl.v Sl.nil]) Tryz.underlying25 rfl ti_25 (hAp.get rfl) ((au.ext hT.chg).part 0 _ rfl)) fun _ => Eq.refl _
 ·intro a w hT
  have hAp := hT.ag q [] trivial (by kernel_rfl)
  have hAp := hAp.add (t := 28) (v := .int .i64 f) (hT.vals 5 rfl 28 rfl)
  have hAp := hAp.add (t := 29) (v := .int .i64 j) (hT.vals 6 rfl 29 rfl)
  have hAp := hAp.add (t := 30) (v := .agg #[.int .i64 k, .string (Bs l), .string (Bs m), Sl.v o, Sl.v Sl.nil]) (hT.vals 7 rfl 30 rfl)
  exact ovr hAp rfl (r_build (vs := #[(0, .int .i64 f), (1, .int .i64 j), (2, .agg #[.int .i64 k, .string (Bs l), .string (Bs m), Sl.v o, Sl.v Sl.nil])]) (cells := #[.int .i64 f, .int .i64 j, .int .i64 k, .string (Bs l), .string (Bs m), Sl.v o, Sl.v Sl.nil, Sl.v Sl.nil]) (map_arr2 (ml2_cons (hAp.get rfl) (ml2_cons (hAp.get rfl) (ml2_cons (hAp.get rfl) (ml2_nil))))) ti_88 Tryz.underlying88 pl_88 (by kernel_rfl)) fun _ => Eq.refl _
 ·intro a1 u av a2 aG
  have a3 := a2 [(0, .pointer (some d)), (1, .int .i64 f), (2, .int .i64 j), (7, pB p 0)] ⟨rfl, rfl, rfl, rfl, trivial⟩ (by kernel_rfl)
  have a4 : a1.tmps.getD 27 undef = Sl.v s := aG 4 rfl 27 rfl
  have a5 := a3.add a4
  obtain ⟨g, aH, aI, a6⟩ := aG 9 rfl 32 rfl
  have a7 := a5.add a6
  have a8 := au.ext av
  have bU : Chg [] r u := av
  have a9 := aX u g av aH aI
  have bV : p ≠ g := Nat.ne_of_lt (Nat.lt_of_lt_of_le au.lt aH)
  refine PRF_drop (X := [1, 5, 6, 7, 8]) (Fs' := [0]) a7 (by kernel_rfl) fun bX ba bY => ?_
  have ax := ba [(0, .pointer (some d)), (27, Sl.v s), (32, Sl.v (Sl.mk (some ⟨g, 0, none⟩) 1 1))] ⟨rfl, rfl, rfl, trivial⟩ (by kernel_rfl)
  refine oneF (c := 10) ax rfl (by kernel_rfl) (constF ⟨fun _ _ _ h => h, trivial⟩) ⟨?_, trivial⟩ ?_
  ·intro a hT
   have hAp := hT.ag ax [(0, .pointer (some d))] ⟨rfl, trivial⟩ (by kernel_rfl)
   exact opk_val hAp rfl (r_move (hAp.get rfl)) fun _ _ e => ⟨_, e, rfl, fun _ => Eq.refl _⟩
  ·intro bZ hT
   have ay := hT.ag ax [(0, .pointer (some d)), (27, Sl.v s), (32, Sl.v (Sl.mk (some ⟨g, 0, none⟩) 1 1))] ⟨rfl, rfl, rfl, trivial⟩ (by kernel_rfl)
   have bb := a9 aI
   refine (opk_run ay rfl (fun _ _ hr => r_append (ay.get rfl) (ay.get rfl) hr) bb fun b0 b1 aq aJ bd bf b2 bg => ?_)
   refine ⟨_, bd, ?_⟩
   obtain ⟨x, rfl, bi⟩ := bg
   have bj := a8.kept bf (.head _)
   refine joinF aJ (by kernel_rfl) ⟨fun _ _ _ _ h => h, trivial⟩ ⟨?_, trivial⟩ ?_
   ·intro a w hT
    have hAp := hT.ag aJ [(0, .pointer (some d))] ⟨rfl, trivial⟩ (by kernel_rfl)
    exact ovr hAp rfl (r_move (hAp.get rfl)) fun _ => Eq.refl _
   ·intro bk y aK bl bo
    have bp := bl [(33, Sl.v x)] ⟨rfl, trivial⟩ (by kernel_rfl)
    have bq : bk.tmps.getD 23 undef = .pointer (some d) := bo 0 rfl 23 rfl
    have az := bp.add bq
    have bt := bj.ext aK
    have bu : Chg [] aq y := aK
    have bv := bi y    bu
    refine par (D := ak) (S := [11, 12]) (F := []) (V := VL [(11, fun v _ => v = .pointer (some d)), (12, fun v _ => v = .pointer (some (d.add 0)))]) az (by kernel_rfl) ⟨fun _ _ _ _ h => h, fun _ _ _ _ h => h, trivial⟩ ⟨?_, ?_, trivial⟩ ?_
    ·intro a w hT
     have hAp := hT.ag az [(23, .pointer (some d))] ⟨rfl, trivial⟩ (by kernel_rfl)
     exact ovr hAp rfl (r_nilCheck (hAp.get rfl)) fun _ => Eq.refl _
    ·intro a w hT
     have hAp := hT.ag az [] trivial (by kernel_rfl)
     have hAp := hAp.add (t := 34) (v := .pointer (some d)) (hT.vals 11 rfl 34 rfl)
     exact ovr hAp rfl (r_fieldAddr (hAp.get rfl) Tryz.underlying84 rfl ti_82 (by decide)) fun _ => Eq.refl _
    ·intro bz z aL bA bB
     have bC := bA [(33, Sl.v x)] ⟨rfl, trivial⟩ (by kernel_rfl)
     have bD : bz.tmps.getD 35 undef = .pointer (some (d.add 0)) := bB 12 rfl 35 rfl
     have aA := bC.add bD
     have bF := bt.ext aL
     have bG : Chg [] y z := aL
     have bH := bv z    bG
     obtain ⟨aa, ai, ar, aj, bI, aM, bJ, bK, bL⟩ := bH
     refine one (D := ak) (i := 13) rfl (by kernel_rfl) (opk_store aA aM (r_store (vs := [Sl.v x]) (((aA.get rfl)).trans (congrArg (fun a => Value.pointer (some a)) bI)) (aA.get rfl) rfl ti_82 aM (Nat.ble_eq_true_of_le bJ) (ones_all _ rfl)) fun b3 ad aN bM bN => ?_)
     have b4 := bF.keep aN (by have := bK p (by simp); simpa using this)
     have bO := bL ad aN bM
     refine PR_end (by kernel_rfl) ?_
     have bP := bN.kp [] rfl
     refine gK (bs := []) (N := []) bP (Chg.refl [] _) trivial (by simp) trivial (by simp) bO ?_
     exact gze <| gz0
def dom_Dom_out.vc (g : Addr) (h : Int) (R : Value → World → Prop) (w : World) : Prop :=
∀ (i : World) (a : Nat), New w a i → Chg [] w i →
CallK Tryz.prog 92 #[.pointer (some g), .int .i64 h] i [a] (fun v x => ∃ (o : Int), v = .int .i64 o ∧
CallK Tryz.prog 61 #[.pointer (some g), .int .i64 o] x [a] (fun v j => ∃ (k : Option Addr), v = .pointer k ∧
∃ p : Addr, (k = some p) ∧
∃ (q : Sl), (j.cell? (p.add 7) = some (Sl.v q)) ∧
∀ (_ : Box j a 3 [.int .i64 h]),
CallK Tryz.prog 95 #[Sl.v q, .func (.func 96) #[] #[.pointer (some (⟨a, 0, none⟩ : Addr))]] j [] (fun v r => ∃ (s : Sl), v = Sl.v s ∧
∃ t : Addr, (k = some t) ∧
∃ (d l : Nat) (u : TypeId) (m : List Value), (t.add 7) = ⟨d, l, none⟩ ∧ Box r d u m ∧ l + 1 ≤ m.length ∧ (∀ b ∈ [], b ≠ d) ∧
(∀ n : World, Chg [d] r n → Box n d u (putAt m l [Sl.v s]) →
R (.tuple #[]) n))))
theorem dom_Dom_out.ok (g : Addr) (h : Int) {R : Value → World → Prop} {w : World} (y : dom_Dom_out.vc g h R w) : Calls Tryz.prog 68 #[.pointer (some g), .int .i64 h] w (Ret R) := by
 refine go _ Tryz.func68 Tryz.ntmps68 y ?_
 refine gS <| gR <| nb fun i a => ge <| tn <| gS <| gR ?_
 refine gM ?_
 refine gM ?_
 refine gB 0 tU3 <| gT1 ?_
 refine gC [0] Tryz.func92 fun _ x => gE fun o => gQ ?_
 refine gC [0] Tryz.func61 fun _ j => gE fun k => gQ ?_
 refine gN <| ge <| tn <| gR ?_
 refine gM ?_
 refine gM ?_
 refine gnP fun p => ?_
 refine gF 7 Tryz.underlying88 ti_78 ?_
 refine gE fun q => gL tU78 ?_
 refine g1 (fun z => r_makeFunc (f := #[]) (c := #[pB a 0]) (map_arr ml_nil) (map_arr (ml_cons z ml_nil))) ?_
 refine gX 0 ?_
 refine gC [] Tryz.func95 fun _ r => gE fun s => gQ ?_
 refine gnP fun t => ?_
 refine gF 7 Tryz.underlying88 ti_78 ?_
 refine wx [] ti_78 fun d l u m n => ge <| gze ?_
 exact gz0
def dom_Dom_Within.vc (b : Addr) (c : Int) (g : Int) (R : Value → World → Prop) (w : World) : Prop :=
∃ (m : Int → World → Prop) (o : Int → World → Nat),
m g w ∧
(∀ (a : Int) (i : World), m a i →
CallK Tryz.prog 63 #[.pointer (some b), .int .i64 c] i [] (fun v j => ∃ (d : Bool), v = .bool d ∧
∃ (k : Bool), (((d = true)) → Calls Tryz.prog 63 #[.pointer (some b), .int .i64 a] j (Ret fun v w' => Ext j w' ∧ v = .bool k)) ∧
(∀ f : World, Ext j f →
(((d = true) ∧ (k = true)) →
((a = c) →
R (.bool true) f) ∧
((¬ (a = c)) →
CallK Tryz.prog 92 #[.pointer (some b), .int .i64 a] f [] (fun v n => ∃ (l : Int), v = .int .i64 l ∧
m l n ∧ o l n < o a i))) ∧
(((d = false) ∨ (k = false)) →
R (.bool false) f))))
theorem dom_Dom_Within.ok (b : Addr) (c : Int) (g : Int) {R : Value → World → Prop} {w : World} (p : dom_Dom_Within.vc b c g R w) : Calls Tryz.prog 69 #[.pointer (some b), .int .i64 c, .int .i64 g] w (Ret R) := by
 refine go _ Tryz.func69 Tryz.ntmps69 p ?_
 refine gS <| gR <| gN <| ge <| tn <| gS <| gb <| gE fun _ => gE fun mu => ?_
 refine l1 mu (fun a => [(2, .int .i64 a)]) [(0, _), (1, _)] (fun _ => []) [] [] fun a i _ => gS <| gS <| gR ?_
 refine gM ?_
 refine gM ?_
 refine gC [] Tryz.func63 fun _ j => gE fun d => gQ ?_
 refine gM ?_
 refine G1 r_move ?_
 refine G1 r_move ?_
 refine gE fun k => GC Tryz.func63 g_t fun f => ?_
 refine gpa <| ge <| tn ?_
 refine gi (fun h => ⟨(aT h).1, (aT h).2⟩) (fun h => ((aF h).imp (fun h => h) (fun h => h))) ?_ ?_
 ·refine gk <| tn <| gb <| gS <| gS <| gR <| gM ?_
  refine gM ?_
  refine g2 r_eql <| ge <| tn ?_
  refine gi dT dF ?_ ?_
  ·refine gS <| gR <| gN <| ge <| tn <| gr <| tr <| br <| tr <| br <| tr ?_
   exact gz1
  ·refine gk <| tn <| gR <| gM ?_
   refine gM ?_
   refine gC [] Tryz.func92 fun _ n => gE fun l => gQ ?_
   refine gN <| ge <| bn ?_
   exact k1 []
 ·refine gx <| te <| te <| bh <| tn <| gS <| gR <| gN <| ge <| tn <| gr ?_
  exact gz1
def dom_Dom_height.vc (g : Addr) (h : Int) (R : Value → World → Prop) (w : World) : Prop :=
CallK Tryz.prog 61 #[.pointer (some g), .int .i64 h] w [] (fun v j => ∃ (k : Option Addr), v = .pointer k ∧
∃ l : Addr, (k = some l) ∧
∃ (d : Sl), (j.cell? (l.add 7) = some (Sl.v d)) ∧
∃ (m : Int → Int → World → Prop) (r : Int → Int → World → Nat),
m 0 0 j ∧
(∀ (c : Int) (b : Int) (f : World), m c b f →
((b < (d.n : Int)) →
((0 : Int) ≤ b ∧ b < (d.n : Int)) ∧ ∃ o : Addr, d.a = some o ∧
∃ (p : Int), (f.cell? (o.add (b.toNat * 1)) = some (.int .i64 p)) ∧
CallK Tryz.prog 70 #[.pointer (some g), .int .i64 p] f [] (fun v q => ∃ (i : Int), v = .int .i64 i ∧
(I64 (b + 1)) ∧
m (max c i) (b + 1) q ∧ r (max c i) (b + 1) q < r c b f)) ∧
((¬ (b < (d.n : Int))) →
(I64 (c + 1)) ∧
R (.int .i64 (c + 1)) f)))
theorem dom_Dom_height.ok (g : Addr) (h : Int) {R : Value → World → Prop} {w : World} (s : dom_Dom_height.vc g h R w) : Calls Tryz.prog 70 #[.pointer (some g), .int .i64 h] w (Ret R) := by
 refine go _ Tryz.func70 Tryz.ntmps70 s ?_
 refine gS <| gR <| gN <| ge <| tn <| gS <| gR ?_
 refine gN <| ge <| tn <| gS <| gS <| gR ?_
 refine gM ?_
 refine gM ?_
 refine gC [] Tryz.func61 fun _ j => gE fun k => gQ ?_
 refine gnP fun l => ?_
 refine gF 7 Tryz.underlying88 ti_78 ?_
 refine gE fun d => gL tU78 ?_
 refine g1 (fun t => r_len t tU78) ?_
 refine gM <| ge <| tn <| gb <| gE fun _ => gE fun mu => ?_
 refine l2 mu (fun c b => [(5, .int .i64 c), (15, .int .i64 b)]) [(0, _), (13, _), (14, _)] (fun _ _ => []) [] [] fun c b f _ => gS <| gR ?_
 refine g2 r_lss <| ge <| tn <| gS ?_
 refine gi dT dF ?_ ?_
 ·refine gk <| tn <| gS <| gb <| gS <| gR <| gI1 tU78 ti_3 fun o => ?_
  refine gE fun p => gL tU3 ?_
  refine gN <| ge <| tn <| gR ?_
  refine gM ?_
  refine gM ?_
  refine gM ?_
  refine gC [] Tryz.func70 fun _ q => gE fun i => gQ ?_
  refine g2 r_max ?_
  refine gN <| ge <| bn <| tn <| gR ?_
  refine g2s r_addI ?_
  refine gM <| ge ?_
  exact k2 []
 ·refine gx <| te <| te <| bh <| tn <| gS <| gR <| gM ?_
  refine g2s r_addI ?_
  refine gN <| ge <| tn <| gr ?_
  exact gz1
def dom_node_attr.vc (a : Addr) (b : Str) (R : Value → World → Prop) (w : World) : Prop :=
∃ (c : Sl), (w.cell? ((a.add 2).add 3) = some (Sl.v c)) ∧
CallK Tryz.prog 97 #[Sl.v c, .string (Bs b), .func (.func 98) #[] #[]] w [] (fun v g => ∃ (d : Int) (f : Bool), v = .tuple #[.int .i64 d, .bool f] ∧
R (.tuple #[.int .i64 d, .bool f]) g)
theorem dom_node_attr.ok (a : Addr) (b : Str) {R : Value → World → Prop} {w : World} (h : dom_node_attr.vc a b R w) : Calls Tryz.prog 72 #[.pointer (some a), .string (Bs b)] w (Ret R) := by
 refine go _ Tryz.func72 Tryz.ntmps72 h ?_
 refine gS <| gR <| gN ?_
 refine gN <| ge <| tn <| gS <| gR ?_
 refine gM ?_
 refine g1 r_nilCheck ?_
 refine gF 2 Tryz.underlying88 ti_25 ?_
 refine gF 3 Tryz.underlying25 ti_22 ?_
 refine gE fun c => gL tU22 ?_
 refine gM ?_
 refine gC [] Tryz.func97 fun _ g => gE fun d => gE fun f => gQ ?_
 refine gx1 ?_
 refine gx1 ?_
 refine gN ?_
 refine gN <| ge <| tn <| gr ?_
 exact gz2
def dom_Dom_Parent.vc (b : Addr) (c : Int) (R : Value → World → Prop) (w : World) : Prop :=
CallK Tryz.prog 61 #[.pointer (some b), .int .i64 c] w [] (fun v d => ∃ (a : Option Addr), v = .pointer a ∧
(((Option.isNone a) = true) →
R (.int .i64 (-1)) d) ∧
(((Option.isNone a) = false) →
∃ f : Addr, (a = some f) ∧
∃ (g : Int), (d.cell? (f.add 1) = some (.int .i64 g)) ∧
R (.int .i64 g) d))
theorem dom_Dom_Parent.ok (b : Addr) (c : Int) {R : Value → World → Prop} {w : World} (h : dom_Dom_Parent.vc b c R w) : Calls Tryz.prog 92 #[.pointer (some b), .int .i64 c] w (Ret R) := by
 refine go _ Tryz.func92 Tryz.ntmps92 h ?_
 refine gS <| gR <| gN <| ge <| tn <| gS <| gR ?_
 refine gM ?_
 refine gM ?_
 refine gC [] Tryz.func61 fun _ d => gE fun a => gQ ?_
 refine gN <| ge <| tn <| gS <| gS <| gR ?_
 refine gM ?_
 refine g2 (fun i j => r_pnil (o := a) i j tU85) <| ge <| tn ?_
 refine gi id id ?_ ?_
 ·refine gS <| gR <| gN <| ge <| tn <| gr <| tr ?_
  exact gz1
 ·refine gk <| tn <| gS <| gR <| gM ?_
  refine gnP fun f => ?_
  refine gF 1 Tryz.underlying88 ti_3 ?_
  refine gE fun g => gL tU3 ?_
  refine gN <| ge <| tn <| gr ?_
  exact gz1
def dom_Dom_out_1.vc (a : Int) (b : Addr) (R : Value → World → Prop) (w : World) : Prop :=
∃ (c : Int), (w.cell? b = some (.int .i64 c)) ∧
R (.bool (decide (a = c))) w
theorem dom_Dom_out_1.ok (a : Int) (b : Addr) {R : Value → World → Prop} {w : World} (d : dom_Dom_out_1.vc a b R w) : Calls Tryz.prog 96 #[.int .i64 a, .pointer (some b)] w (Ret R) := by
 refine go _ Tryz.func96 Tryz.ntmps96 d ?_
 refine gS <| gR <| gN <| ge <| tn <| gS <| gR ?_
 refine gM ?_
 refine gE fun c => gL tU3 ?_
 refine g2 r_eql ?_
 refine gN <| ge <| tn <| gr ?_
 exact gz1
def dom_node_attr_1.vc (a : Str) (d : Str) (b : Str) (R : Value → World → Prop) (w : World) : Prop :=
∀ (c : World) (f : Nat), New w f c → Chg [] w c →
CallK Tryz.prog 99 #[.string (Bs a), .string (Bs b)] c [f] (fun v h => ∃ (g : Int), v = .int .i64 g ∧
R (.int .i64 g) h)
theorem dom_node_attr_1.ok (a : Str) (d : Str) (b : Str) {R : Value → World → Prop} {w : World} (i : dom_node_attr_1.vc a d b R w) : Calls Tryz.prog 98 #[.agg #[.string (Bs a), .string (Bs d)], .string (Bs b)] w (Ret R) := by
 refine go _ Tryz.func98 Tryz.ntmps98 i ?_
 refine gS <| gR <| nb fun c f => ?_
 refine gN <| ge <| tn <| gS <| gR ?_
 refine gF 0 Tryz.underlying63 ti_9 ?_
 refine gB 0 tU9 ?_
 refine gM <| gT1 ?_
 refine gC [0] Tryz.func99 fun _ h => gE fun g => gQ ?_
 refine gN <| ge <| tn <| gr ?_
 exact gz1
end Go.Proofs.YtghmgfkdnolcdaaGreat
