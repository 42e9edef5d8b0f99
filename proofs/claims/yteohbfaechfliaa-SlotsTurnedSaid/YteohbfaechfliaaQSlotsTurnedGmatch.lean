/-
  PRINTED BY PROGRAM: for each function its condition (vc), and that this suffices (ok).
-/
import Derived.Test.YteohbfaechfliaaQSlotsTurnedGT
namespace Go.Proofs.Yteohbfaechfliaa
open Go.RowKit
set_option linter.unusedVariables false
set_option maxHeartbeats 1000000
set_option maxRecDepth 10000
def match_Check.vc (aK : Int) (aL : Str) (aM : Str) (aN : Sl) (aO : Sl) (aP : Int) (aQ : Str) (aR : Str) (aS : Sl) (aU : Sl) (r : Sl) (R : Value → World → Prop) (w : World) : Prop :=
∀ (w7 : World) (a3 : Nat) (a4 : Nat), New w a3 w7 → New w a4 w7 → a3 ≠ a4 → Chg [] w w7 →
CallK Try.prog 60 #[.agg #[.int .i64 aK, .string (Bs aL), .string (Bs aM), Sl.v aN, Sl.v aO]] w7 [a3, a4] (fun v a5 => ∃ (af : Bool), v = .bool af ∧
∃ (ai : Bool), (((af = true)) → Calls Try.prog 60 #[.agg #[.int .i64 aP, .string (Bs aQ), .string (Bs aR), Sl.v aS, Sl.v aU]] a5 (Ret fun v w' => Ext a5 w' ∧ v = .bool ai)) ∧
(∀ aX : World, Ext a5 aX →
∃ a9 : Addr, (((((af = true) ∧ (ai = true)) ∧ (¬ ((r.n : Int) = 0)))) → ((0 : Int) ≤ 0 ∧ 0 < (r.n : Int)) ∧  r.a = some a9) ∧
∃ (a6 : Int) (a7 : Int), (((((af = true) ∧ (ai = true)) ∧ (¬ ((r.n : Int) = 0)))) → Cells aX (a9.add (0 * 2)) [.int .i64 a6, .int .i64 a7]) ∧
(((((af = false) ∨ (ai = false)) ∨ ((r.n : Int) = 0)) ∨ (¬ (a6 = 0 ∧ a7 = 0))) →
R (.bool false) aX) ∧
(((((af = true) ∧ (ai = true)) ∧ (¬ ((r.n : Int) = 0))) ∧ (¬ (¬ (a6 = 0 ∧ a7 = 0)))) →
∀ (aY : World), Chg [] aX aY →
∃ aj : Sl → World → Prop, (∀ f : Sl, ∀ w' w'' : World, Ext w' w'' → aj f w' → aj f w'') ∧
(∀ w' : World, Ext aY w' → Calls Try.prog 37 #[.agg #[.int .i64 aK, .string (Bs aL), .string (Bs aM), Sl.v aN, Sl.v aO]] w' (Ret fun v w'' => Ext w' w'' ∧ ∃ f : Sl, v = Sl.v f ∧ aj f w'')) ∧
∃ ak : Sl → World → Prop, (∀ i : Sl, ∀ w' w'' : World, Ext w' w'' → ak i w' → ak i w'') ∧
(∀ w' : World, Ext aY w' → Calls Try.prog 37 #[.agg #[.int .i64 aP, .string (Bs aQ), .string (Bs aR), Sl.v aS, Sl.v aU]] w' (Ret fun v w'' => Ext w' w'' ∧ ∃ i : Sl, v = Sl.v i ∧ ak i w'')) ∧
∀ (aZ : World) (f : Sl) (i : Sl), Ext aY aZ → aj f aZ → ak i aZ → 
RunK Try.prog (Instr.makeMap 107 none) aZ [] (fun v bo => ∃ (y : Option Nat), v = .map y ∧
∃ (ba : Int → Int → World → Prop) (bp : Int → Int → World → Nat),
ba (-1) 0 bo ∧
(∀ (d : Int) (u : Int) (ah : World), ba d u ah →
((u < (r.n : Int)) →
((0 : Int) ≤ u ∧ u < (r.n : Int)) ∧ ∃ bb : Addr, r.a = some bb ∧
∃ (b : Int) (c : Int), (Cells ah (bb.add (u.toNat * 2)) [.int .i64 b, .int .i64 c]) ∧
∀ (x : World) (q : Nat), New ah q x → Chg [] ah x →
∃ (j : Bool), ((((((¬ (b ≤ d)) ∧ (¬ ((f.n : Int) ≤ b))) ∧ (¬ (c < 0))) ∧ (¬ ((i.n : Int) ≤ c)))) → ∀ w' : World, Ext x w' → (Instr.lookup 107 (.map y) (.int .i64 c) false).run Try.prog w' = .ok (.bool j) w') ∧
∃ a0 : Addr, (((((((¬ (b ≤ d)) ∧ (¬ ((f.n : Int) ≤ b))) ∧ (¬ (c < 0))) ∧ (¬ ((i.n : Int) ≤ c))) ∧ (j = false))) → ((0 : Int) ≤ b ∧ b < (f.n : Int)) ∧ f.a = some a0) ∧
∃ (al : Int) (am : Int) (an : Int) (ao : Int) (ap : Int) (aq : Int) (ar : Str) (au : Str) (av : Sl) (ax : Sl), (((((((¬ (b ≤ d)) ∧ (¬ ((f.n : Int) ≤ b))) ∧ (¬ (c < 0))) ∧ (¬ ((i.n : Int) ≤ c))) ∧ (j = false))) → Cells x (a0.add (b.toNat * 10)) [.int .i64 al, .int .i64 am, .int .i64 an, .int .i64 ao, .int .i64 ap, .int .i64 aq, .string (Bs ar), .string (Bs au), Sl.v av, Sl.v ax]) ∧
∃ z : Int → Str → World → Prop, (∀ l : Int, ∀ m : Str, ∀ w' w'' : World, Ext w' w'' → z l m w' → z l m w'') ∧
(((((((¬ (b ≤ d)) ∧ (¬ ((f.n : Int) ≤ b))) ∧ (¬ (c < 0))) ∧ (¬ ((i.n : Int) ≤ c))) ∧ (j = false))) → ∀ w' : World, Ext x w' → Calls Try.prog 61 #[.agg #[.int .i64 al, .int .i64 am, .int .i64 an, .int .i64 ao, .int .i64 ap, .int .i64 aq, .string (Bs ar), .string (Bs au), Sl.v av, Sl.v ax]] w' (Ret fun v w'' => Ext w' w'' ∧ ∃ l : Int, ∃ m : Str, v = .agg #[.int .i64 l, .string (Bs m)] ∧ z l m w'')) ∧
∃ a1 : Addr, (((((((¬ (b ≤ d)) ∧ (¬ ((f.n : Int) ≤ b))) ∧ (¬ (c < 0))) ∧ (¬ ((i.n : Int) ≤ c))) ∧ (j = false))) → ((0 : Int) ≤ c ∧ c < (i.n : Int)) ∧ i.a = some a1) ∧
∃ (ay : Int) (az : Int) (aA : Int) (aB : Int) (aC : Int) (aD : Int) (aG : Str) (aH : Str) (aI : Sl) (aJ : Sl), (((((((¬ (b ≤ d)) ∧ (¬ ((f.n : Int) ≤ b))) ∧ (¬ (c < 0))) ∧ (¬ ((i.n : Int) ≤ c))) ∧ (j = false))) → Cells x (a1.add (c.toNat * 10)) [.int .i64 ay, .int .i64 az, .int .i64 aA, .int .i64 aB, .int .i64 aC, .int .i64 aD, .string (Bs aG), .string (Bs aH), Sl.v aI, Sl.v aJ]) ∧
∃ aa : Int → Str → World → Prop, (∀ o : Int, ∀ p : Str, ∀ w' w'' : World, Ext w' w'' → aa o p w' → aa o p w'') ∧
(((((((¬ (b ≤ d)) ∧ (¬ ((f.n : Int) ≤ b))) ∧ (¬ (c < 0))) ∧ (¬ ((i.n : Int) ≤ c))) ∧ (j = false))) → ∀ w' : World, Ext x w' → Calls Try.prog 61 #[.agg #[.int .i64 ay, .int .i64 az, .int .i64 aA, .int .i64 aB, .int .i64 aC, .int .i64 aD, .string (Bs aG), .string (Bs aH), Sl.v aI, Sl.v aJ]] w' (Ret fun v w'' => Ext w' w'' ∧ ∃ o : Int, ∃ p : Str, v = .agg #[.int .i64 o, .string (Bs p)] ∧ aa o p w'')) ∧
∀ (ab : World) (l : Int) (m : Str) (o : Int) (p : Str), Ext x ab → (((((((¬ (b ≤ d)) ∧ (¬ ((f.n : Int) ≤ b))) ∧ (¬ (c < 0))) ∧ (¬ ((i.n : Int) ≤ c))) ∧ (j = false))) → z l m ab) → (((((((¬ (b ≤ d)) ∧ (¬ ((f.n : Int) ≤ b))) ∧ (¬ (c < 0))) ∧ (¬ ((i.n : Int) ≤ c))) ∧ (j = false))) → aa o p ab) → 
(((((((b ≤ d) ∨ ((f.n : Int) ≤ b)) ∨ (c < 0)) ∨ ((i.n : Int) ≤ c)) ∨ (j = true)) ∨ (¬ (l = o ∧ m = p))) →
R (.bool false) ab) ∧
(((((((¬ (b ≤ d)) ∧ (¬ ((f.n : Int) ≤ b))) ∧ (¬ (c < 0))) ∧ (¬ ((i.n : Int) ≤ c))) ∧ (j = false)) ∧ (¬ (¬ (l = o ∧ m = p)))) →
RunU Try.prog (Instr.mapUpdate 107 (.map y) (.int .i64 c) (.bool true)) ab [q] (fun bd =>
(I64 (u + 1)) ∧
ba b (u + 1) bd ∧ bp b (u + 1) bd < bp d u ah))) ∧
((¬ (u < (r.n : Int))) →
R (.bool true) ah))))))
theorem match_Check.ok (aK : Int) (aL : Str) (aM : Str) (aN : Sl) (aO : Sl) (aP : Int) (aQ : Str) (aR : Str) (aS : Sl) (aU : Sl) (r : Sl) {R : Value → World → Prop} {w : World} (bu : match_Check.vc aK aL aM aN aO aP aQ aR aS aU r R w) : Calls Try.prog 36 #[.agg #[.int .i64 aK, .string (Bs aL), .string (Bs aM), Sl.v aN, Sl.v aO], .agg #[.int .i64 aP, .string (Bs aQ), .string (Bs aR), Sl.v aS, Sl.v aU], Sl.v r] w (Ret R) := by
 refine go _ Try.func36 Try.ntmps36 bu ?_
 refine gS <| gR <| nb fun w5 a3 => ?_
 refine nb fun w7 a4 => ?_
 refine gN <| ge <| tn <| gS <| gS <| gR ?_
 refine gBN 1 5 Try.underlying26 ti_26 <| gT2 ?_
 refine gC [1, 0] Try.func60 fun _ a5 => gE fun af => gQ ?_
 refine g1 r_not ?_
 refine gM ?_
 refine GBN 0 5 Try.underlying26 ti_26 ?_
 refine gE fun ai => GC Try.func60 (fun hg => (nF (g_f hg))) fun aX => ?_
 refine G1 r_not ?_
 refine gpo ?_
 refine gM ?_
 refine G1 r_move ?_
 refine G1 (fun a2 => r_len a2 tU29) ?_
 refine G2 r_eql ?_
 refine gpo ?_
 refine gM ?_
 refine G1 r_move ?_
 refine GI2 tU29 ti_40 (fun hg => ⟨⟨(nF (oF (oF (g_f hg)).1).1), (nF (oF (oF (g_f hg)).1).2)⟩, (dF (oF (g_f hg)).2)⟩) fun a9 => ?_
 refine gE fun a6 => gE fun a7 => GLN Try.underlying40 ti_40 (fun hg => ⟨⟨(nF (oF (oF (g_f hg)).1).1), (nF (oF (oF (g_f hg)).1).2)⟩, (dF (oF (g_f hg)).2)⟩) ?_
 refine Gbu ti_40 Try.underlying40 pl_40 ?_
 refine G2 (fun a2 bv => r_aneqd a2 bv (eq_40 _ _ _ _)) ?_
 refine gpo <| ge <| tn ?_
 refine gi (fun h => ((oT h).imp (fun h => ((oT h).imp (fun h => ((oT h).imp (fun h => (nT h)) (fun h => (nT h)))) (fun h => (dT h)))) (fun h => (dT h)))) (fun h => ⟨⟨⟨(nF (oF (oF (oF h).1).1).1), (nF (oF (oF (oF h).1).1).2)⟩, (dF (oF (oF h).1).2)⟩, (dF (oF h).2)⟩) ?_ ?_
 ·refine gS <| gR <| gN <| ge <| tn <| gr <| tr ?_
  exact gz1
 ·refine gk <| tn <| gS <| gD fun aY => gT0 <| gE fun aj => gA fun bz => gA fun bA => gE fun ak => gA fun bB => gA fun bC => ?_
  refine gW 0 6 [(1, ⟨Sl, default, fun s => Sl.v s, fun s w => aj s w, bz⟩), (3, ⟨Sl, default, fun s => Sl.v s, fun s w => ak s w, bB⟩)] ?_
  refine gBN 1 5 Try.underlying26 ti_26 ?_
  refine yc rfl Try.func37 (fun w' hE _ => bA w' hE) (fun _ _ h => h) fun f => ?_
  refine gBN 0 5 Try.underlying26 ti_26 ?_
  refine yc rfl Try.func37 (fun w' hE _ => bC w' hE) (fun _ _ h => h) fun i => ?_
  refine gN ?_
  refine gN ?_
  refine eF (fun v w' hE hF => v w' f i hE hF.2.1 hF.1) fun aZ => ?_
  refine gZ <| tn <| gS <| gR ?_
  refine gN <| ge <| tn <| gS <| gR ?_
  refine gR0 [] r_makeMap fun _ bo => gE fun y => gQ ?_
  refine gN <| ge <| tn <| gS <| gS <| gR ?_
  refine gM ?_
  refine g1 (fun a2 => r_len a2 tU29) ?_
  refine gM <| ge <| tn <| gb <| gE fun _ => gE fun mu => ?_
  refine l2 mu (fun d u => [(9, .int .i64 d), (40, .int .i64 u)]) [(7, _), (8, _), (10, _), (38, _), (39, _)] (fun _ _ => []) [] [] fun d u ah _ => gS <| gR ?_
  refine g2 r_lss <| ge <| tn <| gS ?_
  refine gi dT dF ?_ ?_
  ·refine gk <| tn <| gS <| gb <| gS <| gR <| gI1 tU29 ti_40 fun bb => ?_
   refine gE fun b => gE fun c => gLN Try.underlying40 ti_40 ?_
   refine na ti_40 fun ch q => ?_
   refine wn 0 0 ti_40 fun ci => ge <| tn <| gS <| gS ?_
   intro cj a8 bD
   have k := a8.ag
   have bF := a8.bx 0 rfl
   have bG := a8.chg
   have bH := a8.new q (by simp)
   refine draw' (by kernel_rfl) fun x bf => ?_
   have ad := bF.ext bf
   have bI := bG.more bf
   have bJ := bH.up bf.size
   have bK := bD x q bJ  bI
   obtain ⟨j, bL, bM⟩ := bK
   obtain ⟨a0, bq, bN⟩ := bM
   obtain ⟨al, am, an, ao, ap, aq, ar, au, av, ax, bO, bP⟩ := bN
   obtain ⟨z, bg, bQ, bR⟩ := bP
   obtain ⟨a1, bt, bS⟩ := bR
   obtain ⟨ay, az, aA, aB, aC, aD, aG, aH, aI, aJ, bT, bU⟩ := bS
   obtain ⟨aa, bi, bV, bX⟩ := bU
   refine par (D := [[], [0], [], [0, 1, 2], [0, 1, 2, 3], [0, 1, 2, 3, 4], [0, 1, 2, 3, 4, 5], [0, 1, 2, 3, 4], [0, 1, 2, 3, 4, 7], [0, 1, 2, 3, 4, 5, 6, 7, 8], [0, 1, 2, 3, 4, 5, 6, 7, 8, 9], [0, 1, 2, 3, 4, 5, 6, 7, 8, 9, 10], [0, 1, 2, 3, 4, 5, 6, 7, 8, 9, 10, 11], [0, 1, 2, 3, 4, 5, 6, 7, 8, 9, 10, 11, 12], [0, 1, 2, 3, 4, 5, 6, 7, 8, 9, 10, 11, 12, 13], [0, 1, 2, 3, 4, 5, 6, 7, 8, 9, 10, 11, 12, 13, 14], [0, 1, 2, 3, 4, 5, 6, 7, 8, 9, 10, 11, 12, 13, 14, 15], [0, 1, 2, 3, 4, 5, 6, 7, 8, 9, 10, 11, 12, 13, 14, 15, 16], [0, 1, 2, 3, 4, 5, 6, 7, 8, 9, 10, 11, 12, 13, 14, 15, 16, 17], [0, 1, 2, 3, 4, 5, 6, 7, 8, 9, 10, 11, 12, 13, 14, 15, 16], [0, 1, 2, 3, 4, 5, 6, 7, 8, 9, 10, 11, 12, 13, 14, 15, 16, 19], [0, 1, 2, 3, 4, 5, 6, 7, 8, 9, 10, 11, 12, 13, 14, 15, 16, 17, 18, 19, 20], [0, 1, 2, 3, 4, 5, 6, 7, 8, 9, 10, 11, 12, 13, 14, 15, 16, 17, 18, 19, 20, 21], [0, 1, 2, 3, 4, 5, 6, 7, 8, 9, 10, 11, 12, 13, 14, 15, 16, 17, 18, 19, 20, 21, 22], [0, 1, 2, 3, 4, 5, 6, 7, 8, 9, 10, 11, 12, 13, 14, 15, 16, 17, 18, 19, 20, 21, 22, 23], [0, 1, 2, 3, 4, 5, 6, 7, 8, 9, 10, 11, 12, 13, 14, 15, 16, 17, 18, 19, 20, 21, 22, 23], [0, 1, 2, 3, 4, 5, 6, 7, 8, 9, 10, 11, 12, 13, 14, 15, 16, 17, 18, 19, 20, 21, 22, 23, 25], [0, 1, 2, 3, 4, 5, 6, 7, 8, 9, 10, 11, 12, 13, 14, 15, 16, 17, 18, 19, 20, 21, 22, 23, 24, 25, 26], [0, 1, 2, 3, 4, 5, 6, 7, 8, 9, 10, 11, 12, 13, 14, 15, 16, 17, 18, 19, 20, 21, 22, 23, 24, 25, 26, 27], [0, 1, 2, 3, 4, 5, 6, 7, 8, 9, 10, 11, 12, 13, 14, 15, 16, 17, 18, 19, 20, 21, 22, 23, 24, 25, 26, 27, 28], [0, 1, 2, 3, 4, 5, 6, 7, 8, 9, 10, 11, 12, 13, 14, 15, 16, 17, 18, 19, 20, 21, 22, 23, 24, 25, 26, 27, 28, 29], [0, 1, 2, 3, 4, 5, 6, 7, 8, 9, 10, 11, 12, 13, 14, 15, 16, 17, 18, 19, 20, 21, 22, 23, 24, 25, 26, 27, 28, 29], [0, 1, 2, 3, 4, 5, 6, 7, 8, 9, 10, 11, 12, 13, 14, 15, 16, 17, 18, 19, 20, 21, 22, 23, 24, 25, 26, 27, 28, 29, 31], [0, 1, 2, 3, 4, 5, 6, 7, 8, 9, 10, 11, 12, 13, 14, 15, 16, 17, 18, 19, 20, 21, 22, 23, 24, 25, 26, 27, 28, 29, 30, 31, 32], [0, 1, 2, 3, 4, 5, 6, 7, 8, 9, 10, 11, 12, 13, 14, 15, 16, 17, 18, 19, 20, 21, 22, 23, 24, 25, 26, 27, 28, 29, 30, 31, 32, 33], [0, 1, 2, 3, 4, 5, 6, 7, 8, 9, 10, 11, 12, 13, 14, 15, 16, 17, 18, 19, 20, 21, 22, 23, 24, 25, 26, 27, 28, 29, 30, 31, 32, 33, 34], [0, 1, 2, 3, 4, 5, 6, 7, 8, 9, 10, 11, 12, 13, 14, 15, 16, 17, 18, 19, 20, 21, 22, 23, 24, 25, 26, 27, 28, 29], [0, 1, 2, 3, 4, 5, 6, 7, 8, 9, 10, 11, 12, 13, 14, 15, 16, 17, 18, 19, 20, 21, 22, 23, 24, 25, 26, 27, 28, 29], [0, 1, 2, 3, 4, 5, 6, 7, 8, 9, 10, 11, 12, 13, 14, 15, 16, 17, 18, 19, 20, 21, 22, 23, 24, 25, 26, 27, 28, 29, 37], [0, 1, 2, 3, 4, 5, 6, 7, 8, 9, 10, 11, 12, 13, 14, 15, 16, 17, 18, 19, 20, 21, 22, 23, 24, 25, 26, 27, 28, 29, 36, 37, 38], [0, 1, 2, 3, 4, 5, 6, 7, 8, 9, 10, 11, 12, 13, 14, 15, 16, 17, 18, 19, 20, 21, 22, 23, 24, 25, 26, 27, 28, 29, 36, 37, 38, 39], [0, 1, 2, 3, 4, 5, 6, 7, 8, 9, 10, 11, 12, 13, 14, 15, 16, 17, 18, 19, 20, 21, 22, 23, 24, 25, 26, 27, 28, 29, 30, 31, 32, 33, 34, 35, 36, 37, 38, 39, 40], [0, 1, 2, 3, 4, 5, 6, 7, 8, 9, 10, 11, 12, 13, 14, 15, 16, 17, 18, 19, 20, 21, 22, 23, 24, 25, 26, 27, 28, 29, 30, 31, 32, 33, 34, 35, 36, 37, 38, 39, 40, 41], [0, 1, 2, 3, 4, 5, 6, 7, 8, 9, 10, 11, 12, 13, 14, 15, 16, 17, 18, 19, 20, 21, 22, 23, 24, 25, 26, 27, 28, 29, 30, 31, 32, 33, 34, 35, 36, 37, 38, 39, 40, 41, 42]]) (S := [0, 1, 2, 3, 4, 5, 6, 7, 8, 9, 10, 11, 12, 13, 14, 15, 16, 17, 18, 19, 20, 21, 22, 23, 24, 25, 26, 27, 28, 29, 30, 31, 32, 33, 34, 35, 36, 37, 38, 39, 40, 41, 42, 43]) (F := []) (V := VL [(0, fun v _ => v = pB q 0), (1, fun v _ => v = .int .i64 b), (2, fun v _ => v = .int .i64 d), (3, fun v _ => v = .bool (decide (b ≤ d))), (4, fun v _ => v = .bool (decide (b ≤ d))), (5, fun v _ => v = cV (true && ((decide (b ≤ d)) == false)) (pB q 0)), (6, fun v _ => v = cV (true && ((decide (b ≤ d)) == false)) (.int .i64 b)), (7, fun v _ => v = cV (true && ((decide (b ≤ d)) == false)) (Sl.v f)), (8, fun v _ => v = cV (true && ((decide (b ≤ d)) == false)) (.int .i64 (f.n : Int))), (9, fun v _ => v = cV (true && ((decide (b ≤ d)) == false)) (.bool (decide ((f.n : Int) ≤ b)))), (10, fun v _ => v = .bool ((decide (b ≤ d)) || (decide ((f.n : Int) ≤ b)))), (11, fun v _ => v = .bool ((decide (b ≤ d)) || (decide ((f.n : Int) ≤ b)))), (12, fun v _ => v = cV (true && (((decide (b ≤ d)) || (decide ((f.n : Int) ≤ b))) == false)) (pB q 1)), (13, fun v _ => v = cV (true && (((decide (b ≤ d)) || (decide ((f.n : Int) ≤ b))) == false)) (.int .i64 c)), (14, fun v _ => v = cV (true && (((decide (b ≤ d)) || (decide ((f.n : Int) ≤ b))) == false)) (.bool (decide (c < 0)))), (15, fun v _ => v = .bool (((decide (b ≤ d)) || (decide ((f.n : Int) ≤ b))) || (decide (c < 0)))), (16, fun v _ => v = .bool (((decide (b ≤ d)) || (decide ((f.n : Int) ≤ b))) || (decide (c < 0)))), (17, fun v _ => v = cV (true && ((((decide (b ≤ d)) || (decide ((f.n : Int) ≤ b))) || (decide (c < 0))) == false)) (pB q 1)), (18, fun v _ => v = cV (true && ((((decide (b ≤ d)) || (decide ((f.n : Int) ≤ b))) || (decide (c < 0))) == false)) (.int .i64 c)), (19, fun v _ => v = cV (true && ((((decide (b ≤ d)) || (decide ((f.n : Int) ≤ b))) || (decide (c < 0))) == false)) (Sl.v i)), (20, fun v _ => v = cV (true && ((((decide (b ≤ d)) || (decide ((f.n : Int) ≤ b))) || (decide (c < 0))) == false)) (.int .i64 (i.n : Int))), (21, fun v _ => v = cV (true && ((((decide (b ≤ d)) || (decide ((f.n : Int) ≤ b))) || (decide (c < 0))) == false)) (.bool (decide ((i.n : Int) ≤ c)))), (22, fun v _ => v = .bool ((((decide (b ≤ d)) || (decide ((f.n : Int) ≤ b))) || (decide (c < 0))) || (decide ((i.n : Int) ≤ c)))), (23, fun v _ => v = .bool ((((decide (b ≤ d)) || (decide ((f.n : Int) ≤ b))) || (decide (c < 0))) || (decide ((i.n : Int) ≤ c)))), (24, fun v _ => v = cV (true && (((((decide (b ≤ d)) || (decide ((f.n : Int) ≤ b))) || (decide (c < 0))) || (decide ((i.n : Int) ≤ c))) == false)) (.map y)), (25, fun v _ => v = cV (true && (((((decide (b ≤ d)) || (decide ((f.n : Int) ≤ b))) || (decide (c < 0))) || (decide ((i.n : Int) ≤ c))) == false)) (pB q 1)), (26, fun v _ => v = cV (true && (((((decide (b ≤ d)) || (decide ((f.n : Int) ≤ b))) || (decide (c < 0))) || (decide ((i.n : Int) ≤ c))) == false)) (.int .i64 c)), (27, fun v _ => v = cV (true && (((((decide (b ≤ d)) || (decide ((f.n : Int) ≤ b))) || (decide (c < 0))) || (decide ((i.n : Int) ≤ c))) == false)) (.bool j)), (28, fun v _ => v = .bool (((((decide (b ≤ d)) || (decide ((f.n : Int) ≤ b))) || (decide (c < 0))) || (decide ((i.n : Int) ≤ c))) || j)), (29, fun v _ => v = .bool (((((decide (b ≤ d)) || (decide ((f.n : Int) ≤ b))) || (decide (c < 0))) || (decide ((i.n : Int) ≤ c))) || j)), (30, fun v _ => v = cV (true && ((((((decide (b ≤ d)) || (decide ((f.n : Int) ≤ b))) || (decide (c < 0))) || (decide ((i.n : Int) ≤ c))) || j) == false)) (Sl.v f)), (31, fun v _ => v = cV (true && ((((((decide (b ≤ d)) || (decide ((f.n : Int) ≤ b))) || (decide (c < 0))) || (decide ((i.n : Int) ≤ c))) || j) == false)) (pB q 0)), (32, fun v _ => v = cV (true && ((((((decide (b ≤ d)) || (decide ((f.n : Int) ≤ b))) || (decide (c < 0))) || (decide ((i.n : Int) ≤ c))) || j) == false)) (.int .i64 b)), (33, fun v _ => v = cV (true && ((((((decide (b ≤ d)) || (decide ((f.n : Int) ≤ b))) || (decide (c < 0))) || (decide ((i.n : Int) ≤ c))) || j) == false)) (.pointer (some (a0.add (b.toNat * 10))))), (34, fun v _ => v = cV (true && ((((((decide (b ≤ d)) || (decide ((f.n : Int) ≤ b))) || (decide (c < 0))) || (decide ((i.n : Int) ≤ c))) || j) == false)) (.agg #[.int .i64 al, .int .i64 am, .int .i64 an, .int .i64 ao, .int .i64 ap, .int .i64 aq, .string (Bs ar), .string (Bs au), Sl.v av, Sl.v ax])), (35, fun v w' => ∃ l : Int, ∃ m : Str, (((((((¬ (b ≤ d)) ∧ (¬ ((f.n : Int) ≤ b))) ∧ (¬ (c < 0))) ∧ (¬ ((i.n : Int) ≤ c))) ∧ (j = false))) → z l m w') ∧ v = cV (true && ((((((decide (b ≤ d)) || (decide ((f.n : Int) ≤ b))) || (decide (c < 0))) || (decide ((i.n : Int) ≤ c))) || j) == false)) (.agg #[.int .i64 l, .string (Bs m)])), (36, fun v _ => v = cV (true && ((((((decide (b ≤ d)) || (decide ((f.n : Int) ≤ b))) || (decide (c < 0))) || (decide ((i.n : Int) ≤ c))) || j) == false)) (Sl.v i)), (37, fun v _ => v = cV (true && ((((((decide (b ≤ d)) || (decide ((f.n : Int) ≤ b))) || (decide (c < 0))) || (decide ((i.n : Int) ≤ c))) || j) == false)) (pB q 1)), (38, fun v _ => v = cV (true && ((((((decide (b ≤ d)) || (decide ((f.n : Int) ≤ b))) || (decide (c < 0))) || (decide ((i.n : Int) ≤ c))) || j) == false)) (.int .i64 c)), (39, fun v _ => v = cV (true && ((((((decide (b ≤ d)) || (decide ((f.n : Int) ≤ b))) || (decide (c < 0))) || (decide ((i.n : Int) ≤ c))) || j) == false)) (.pointer (some (a1.add (c.toNat * 10))))), (40, fun v _ => v = cV (true && ((((((decide (b ≤ d)) || (decide ((f.n : Int) ≤ b))) || (decide (c < 0))) || (decide ((i.n : Int) ≤ c))) || j) == false)) (.agg #[.int .i64 ay, .int .i64 az, .int .i64 aA, .int .i64 aB, .int .i64 aC, .int .i64 aD, .string (Bs aG), .string (Bs aH), Sl.v aI, Sl.v aJ])), (41, fun v w' => ∃ o : Int, ∃ p : Str, (((((((¬ (b ≤ d)) ∧ (¬ ((f.n : Int) ≤ b))) ∧ (¬ (c < 0))) ∧ (¬ ((i.n : Int) ≤ c))) ∧ (j = false))) → aa o p w') ∧ v = cV (true && ((((((decide (b ≤ d)) || (decide ((f.n : Int) ≤ b))) || (decide (c < 0))) || (decide ((i.n : Int) ≤ c))) || j) == false)) (.agg #[.int .i64 o, .string (Bs p)])), (42, fun v w' => ∃ l : Int, ∃ m : Str, ∃ o : Int, ∃ p : Str, (((((((¬ (b ≤ d)) ∧ (¬ ((f.n : Int) ≤ b))) ∧ (¬ (c < 0))) ∧ (¬ ((i.n : Int) ≤ c))) ∧ (j = false))) → z l m w') ∧ (((((((¬ (b ≤ d)) ∧ (¬ ((f.n : Int) ≤ b))) ∧ (¬ (c < 0))) ∧ (¬ ((i.n : Int) ≤ c))) ∧ (j = false))) → aa o p w') ∧ v = cV (true && ((((((decide (b ≤ d)) || (decide ((f.n : Int) ≤ b))) || (decide (c < 0))) || (decide ((i.n : Int) ≤ c))) || j) == false)) (.bool (decide (¬ (l = o ∧ m = p))))), (43, fun v w' => ∃ l : Int, ∃ m : Str, ∃ o : Int, ∃ p : Str, (((((((¬ (b ≤ d)) ∧ (¬ ((f.n : Int) ≤ b))) ∧ (¬ (c < 0))) ∧ (¬ ((i.n : Int) ≤ c))) ∧ (j = false))) → z l m w') ∧ (((((((¬ (b ≤ d)) ∧ (¬ ((f.n : Int) ≤ b))) ∧ (¬ (c < 0))) ∧ (¬ ((i.n : Int) ≤ c))) ∧ (j = false))) → aa o p w') ∧ v = .bool ((((((decide (b ≤ d)) || (decide ((f.n : Int) ≤ b))) || (decide (c < 0))) || (decide ((i.n : Int) ≤ c))) || j) || (decide (¬ (l = o ∧ m = p)))))]) k (by kernel_rfl) ⟨fun _ _ _ _ h => by first | exact h | (change _ = _ at h; change _ = _; exact h), fun _ _ _ _ h => by first | exact h | (change _ = _ at h; change _ = _; exact h), fun _ _ _ _ h => by first | exact h | (change _ = _ at h; change _ = _; exact h), fun _ _ _ _ h => by first | exact h | (change _ = _ at h; change _ = _; exact h), fun _ _ _ _ h => by first | exact h | (change _ = _ at h; change _ = _; exact h), fun _ _ _ _ h => by first | exact h | (change _ = _ at h; change _ = _; exact h), fun _ _ _ _ h => by first | exact h | (change _ = _ at h; change _ = _; exact h), fun _ _ _ _ h => by first | exact h | (change _ = _ at h; change _ = _; exact h), fun _ _ _ _ h => by first | exact h | (change _ = _ at h; change _ = _; exact h), fun _ _ _ _ h => by first | exact h | (change _ = _ at h; change _ = _; exact h), fun _ _ _ _ h => by first | exact h | (change _ = _ at h; change _ = _; exact h), fun _ _ _ _ h => by first | exact h | (change _ = _ at h; change _ = _; exact h), fun _ _ _ _ h => by first | exact h | (change _ = _ at h; change _ = _; exact h), fun _ _ _ _ h => by first | exact h | (change _ = _ at h; change _ = _; exact h), fun _ _ _ _ h => by first | exact h | (change _ = _ at h; change _ = _; exact h), fun _ _ _ _ h => by first | exact h | (change _ = _ at h; change _ = _; exact h), fun _ _ _ _ h => by first | exact h | (change _ = _ at h; change _ = _; exact h), fun _ _ _ _ h => by first | exact h | (change _ = _ at h; change _ = _; exact h), fun _ _ _ _ h => by first | exact h | (change _ = _ at h; change _ = _; exact h), fun _ _ _ _ h => by first | exact h | (change _ = _ at h; change _ = _; exact h), fun _ _ _ _ h => by first | exact h | (change _ = _ at h; change _ = _; exact h), fun _ _ _ _ h => by first | exact h | (change _ = _ at h; change _ = _; exact h), fun _ _ _ _ h => by first | exact h | (change _ = _ at h; change _ = _; exact h), fun _ _ _ _ h => by first | exact h | (change _ = _ at h; change _ = _; exact h), fun _ _ _ _ h => by first | exact h | (change _ = _ at h; change _ = _; exact h), fun _ _ _ _ h => by first | exact h | (change _ = _ at h; change _ = _; exact h), fun _ _ _ _ h => by first | exact h | (change _ = _ at h; change _ = _; exact h), fun _ _ _ _ h => by first | exact h | (change _ = _ at h; change _ = _; exact h), fun _ _ _ _ h => by first | exact h | (change _ = _ at h; change _ = _; exact h), fun _ _ _ _ h => by first | exact h | (change _ = _ at h; change _ = _; exact h), fun _ _ _ _ h => by first | exact h | (change _ = _ at h; change _ = _; exact h), fun _ _ _ _ h => by first | exact h | (change _ = _ at h; change _ = _; exact h), fun _ _ _ _ h => by first | exact h | (change _ = _ at h; change _ = _; exact h), fun _ _ _ _ h => by first | exact h | (change _ = _ at h; change _ = _; exact h), fun _ _ _ _ h => by first | exact h | (change _ = _ at h; change _ = _; exact h), fun _ _ _ hE ⟨l, m, h0_, e⟩ => ⟨l, m, (fun hp => bg l m _ _ hE (h0_ hp)), e⟩, fun _ _ _ _ h => by first | exact h | (change _ = _ at h; change _ = _; exact h), fun _ _ _ _ h => by first | exact h | (change _ = _ at h; change _ = _; exact h), fun _ _ _ _ h => by first | exact h | (change _ = _ at h; change _ = _; exact h), fun _ _ _ _ h => by first | exact h | (change _ = _ at h; change _ = _; exact h), fun _ _ _ _ h => by first | exact h | (change _ = _ at h; change _ = _; exact h), fun _ _ _ hE ⟨o, p, h0_, e⟩ => ⟨o, p, (fun hp => bi o p _ _ hE (h0_ hp)), e⟩, fun _ _ _ hE ⟨l, m, o, p, h0_, h1_, e⟩ => ⟨l, m, o, p, (fun hp => bg l m _ _ hE (h0_ hp)), (fun hp => bi o p _ _ hE (h1_ hp)), e⟩, fun _ _ _ hE ⟨l, m, o, p, h0_, h1_, e⟩ => ⟨l, m, o, p, (fun hp => bg l m _ _ hE (h0_ hp)), (fun hp => bi o p _ _ hE (h1_ hp)), e⟩, trivial⟩ ⟨?_, ?_, ?_, ?_, ?_, ?_, ?_, ?_, ?_, ?_, ?_, ?_, ?_, ?_, ?_, ?_, ?_, ?_, ?_, ?_, ?_, ?_, ?_, ?_, ?_, ?_, ?_, ?_, ?_, ?_, ?_, ?_, ?_, ?_, ?_, ?_, ?_, ?_, ?_, ?_, ?_, ?_, ?_, ?_, trivial⟩ ?_
   ·intro a w hT
    have hAp := hT.ag k [(12, pB q 0)] ⟨rfl, trivial⟩ (by kernel_rfl)
    exact ovr hAp rfl (r_fieldAddr (hAp.get rfl) Try.underlying40 rfl ti_3 (by decide)) fun _ => Eq.refl _
   ·intro a w hT
    have hAp := hT.ag k [] trivial (by kernel_rfl)
    have hAp := hAp.add (t := 44) (v := pB q 0) (hT.vals 0 rfl 44 rfl)
    exact ovr hAp rfl (r_load1 tU3 rfl (hAp.get rfl) ((ad.ext hT.chg).cell 0 _ rfl)) fun _ => Eq.refl _
   ·intro a w hT
    have hAp := hT.ag k [(9, .int .i64 d)] ⟨rfl, trivial⟩ (by kernel_rfl)
    exact ovr hAp rfl (r_move (hAp.get rfl)) fun _ => Eq.refl _
   ·intro a w hT
    have hAp := hT.ag k [] trivial (by kernel_rfl)
    have hAp := hAp.add (t := 45) (v := .int .i64 b) (hT.vals 1 rfl 45 rfl)
    have hAp := hAp.add (t := 46) (v := .int .i64 d) (hT.vals 2 rfl 46 rfl)
    exact ovr hAp rfl (r_leq (hAp.get rfl) (hAp.get rfl)) fun _ => Eq.refl _
   ·intro a w hT
    have hAp := hT.ag k [] trivial (by kernel_rfl)
    have hAp := hAp.add (t := 47) (v := .bool (decide (b ≤ d))) (hT.vals 3 rfl 47 rfl)
    exact ovr hAp rfl (r_move (hAp.get rfl)) fun _ => Eq.refl _
   ·intro a w hT
    have hAp := hT.ag k [(12, pB q 0)] ⟨rfl, trivial⟩ (by kernel_rfl)
    have hAp := hAp.add (t := 48) (v := .bool (decide (b ≤ d))) (hT.vals 4 rfl 48 rfl)
    exact opk_gval hAp rfl rfl (g := true) (e := (decide (b ≤ d))) rfl (fun hg => r_fieldAddr (hAp.get rfl) Try.underlying40 rfl ti_3 (by decide)) fun _ _ e => ⟨_, e, Chg.refl _ _, fun _ => Eq.refl _⟩
   ·intro a w hT
    have hAp := hT.ag k [] trivial (by kernel_rfl)
    have hAp := hAp.add (t := 48) (v := .bool (decide (b ≤ d))) (hT.vals 4 rfl 48 rfl)
    have hAp := hAp.add (t := 49) (v := cV (true && ((decide (b ≤ d)) == false)) (pB q 0)) (hT.vals 5 rfl 49 rfl)
    exact opk_gval hAp rfl rfl (g := true) (e := (decide (b ≤ d))) rfl (fun hg => r_load1 tU3 rfl (cv_get (hAp.get rfl) hg) ((ad.ext hT.chg).cell 0 _ rfl)) fun _ _ e => ⟨_, e, Chg.refl _ _, fun _ => Eq.refl _⟩
   ·intro a w hT
    have hAp := hT.ag k [(7, Sl.v f)] ⟨rfl, trivial⟩ (by kernel_rfl)
    have hAp := hAp.add (t := 48) (v := .bool (decide (b ≤ d))) (hT.vals 4 rfl 48 rfl)
    exact opk_gval hAp rfl rfl (g := true) (e := (decide (b ≤ d))) rfl (fun hg => r_move (hAp.get rfl)) fun _ _ e => ⟨_, e, Chg.refl _ _, fun _ => Eq.refl _⟩
   ·intro a w hT
    have hAp := hT.ag k [] trivial (by kernel_rfl)
    have hAp := hAp.add (t := 48) (v := .bool (decide (b ≤ d))) (hT.vals 4 rfl 48 rfl)
    have hAp := hAp.add (t := 51) (v := cV (true && ((decide (b ≤ d)) == false)) (Sl.v f)) (hT.vals 7 rfl 51 rfl)
    exact opk_gval hAp rfl rfl (g := true) (e := (decide (b ≤ d))) rfl (fun hg => r_len (cv_get (hAp.get rfl) hg) tU79) fun _ _ e => ⟨_, e, Chg.refl _ _, fun _ => Eq.refl _⟩
   ·intro a w hT
    have hAp := hT.ag k [] trivial (by kernel_rfl)
    have hAp := hAp.add (t := 48) (v := .bool (decide (b ≤ d))) (hT.vals 4 rfl 48 rfl)
    have hAp := hAp.add (t := 50) (v := cV (true && ((decide (b ≤ d)) == false)) (.int .i64 b)) (hT.vals 6 rfl 50 rfl)
    have hAp := hAp.add (t := 52) (v := cV (true && ((decide (b ≤ d)) == false)) (.int .i64 (f.n : Int))) (hT.vals 8 rfl 52 rfl)
    exact opk_gval hAp rfl rfl (g := true) (e := (decide (b ≤ d))) rfl (fun hg => r_geq (cv_get (hAp.get rfl) hg) (cv_get (hAp.get rfl) hg)) fun _ _ e => ⟨_, e, Chg.refl _ _, fun _ => Eq.refl _⟩
   ·intro a w hT
    have hAp := hT.ag k [] trivial (by kernel_rfl)
    have hAp := hAp.add (t := 48) (v := .bool (decide (b ≤ d))) (hT.vals 4 rfl 48 rfl)
    have hAp := hAp.add (t := 53) (v := cV (true && ((decide (b ≤ d)) == false)) (.bool (decide ((f.n : Int) ≤ b)))) (hT.vals 9 rfl 53 rfl)
    exact ovr hAp rfl (r_pick_or (g := (true && ((decide (b ≤ d)) == false))) (hAp.get rfl) (hAp.get rfl) (fun he => g_mkf rfl he)) fun _ => Eq.refl _
   ·intro a w hT
    have hAp := hT.ag k [] trivial (by kernel_rfl)
    have hAp := hAp.add (t := 54) (v := .bool ((decide (b ≤ d)) || (decide ((f.n : Int) ≤ b)))) (hT.vals 10 rfl 54 rfl)
    exact ovr hAp rfl (r_move (hAp.get rfl)) fun _ => Eq.refl _
   ·intro a w hT
    have hAp := hT.ag k [(12, pB q 0)] ⟨rfl, trivial⟩ (by kernel_rfl)
    have hAp := hAp.add (t := 55) (v := .bool ((decide (b ≤ d)) || (decide ((f.n : Int) ≤ b)))) (hT.vals 11 rfl 55 rfl)
    exact opk_gval hAp rfl rfl (g := true) (e := ((decide (b ≤ d)) || (decide ((f.n : Int) ≤ b)))) rfl (fun hg => r_fieldAddr (hAp.get rfl) Try.underlying40 rfl ti_3 (by decide)) fun _ _ e => ⟨_, e, Chg.refl _ _, fun _ => Eq.refl _⟩
   ·intro a w hT
    have hAp := hT.ag k [] trivial (by kernel_rfl)
    have hAp := hAp.add (t := 55) (v := .bool ((decide (b ≤ d)) || (decide ((f.n : Int) ≤ b)))) (hT.vals 11 rfl 55 rfl)
    have hAp := hAp.add (t := 56) (v := cV (true && (((decide (b ≤ d)) || (decide ((f.n : Int) ≤ b))) == false)) (pB q 1)) (hT.vals 12 rfl 56 rfl)
    exact opk_gval hAp rfl rfl (g := true) (e := ((decide (b ≤ d)) || (decide ((f.n : Int) ≤ b)))) rfl (fun hg => r_load1 tU3 rfl (cv_get (hAp.get rfl) hg) ((ad.ext hT.chg).cell 1 _ rfl)) fun _ _ e => ⟨_, e, Chg.refl _ _, fun _ => Eq.refl _⟩
   ·intro a w hT
    have hAp := hT.ag k [] trivial (by kernel_rfl)
    have hAp := hAp.add (t := 55) (v := .bool ((decide (b ≤ d)) || (decide ((f.n : Int) ≤ b)))) (hT.vals 11 rfl 55 rfl)
    have hAp := hAp.add (t := 57) (v := cV (true && (((decide (b ≤ d)) || (decide ((f.n : Int) ≤ b))) == false)) (.int .i64 c)) (hT.vals 13 rfl 57 rfl)
    exact opk_gval hAp rfl rfl (g := true) (e := ((decide (b ≤ d)) || (decide ((f.n : Int) ≤ b)))) rfl (fun hg => r_lss (cv_get (hAp.get rfl) hg) rfl) fun _ _ e => ⟨_, e, Chg.refl _ _, fun _ => Eq.refl _⟩
   ·intro a w hT
    have hAp := hT.ag k [] trivial (by kernel_rfl)
    have hAp := hAp.add (t := 55) (v := .bool ((decide (b ≤ d)) || (decide ((f.n : Int) ≤ b)))) (hT.vals 11 rfl 55 rfl)
    have hAp := hAp.add (t := 58) (v := cV (true && (((decide (b ≤ d)) || (decide ((f.n : Int) ≤ b))) == false)) (.bool (decide (c < 0)))) (hT.vals 14 rfl 58 rfl)
    exact ovr hAp rfl (r_pick_or (g := (true && (((decide (b ≤ d)) || (decide ((f.n : Int) ≤ b))) == false))) (hAp.get rfl) (hAp.get rfl) (fun he => g_mkf rfl he)) fun _ => Eq.refl _
   ·intro a w hT
    have hAp := hT.ag k [] trivial (by kernel_rfl)
    have hAp := hAp.add (t := 59) (v := .bool (((decide (b ≤ d)) || (decide ((f.n : Int) ≤ b))) || (decide (c < 0)))) (hT.vals 15 rfl 59 rfl)
    exact ovr hAp rfl (r_move (hAp.get rfl)) fun _ => Eq.refl _
   ·intro a w hT
    have hAp := hT.ag k [(12, pB q 0)] ⟨rfl, trivial⟩ (by kernel_rfl)
    have hAp := hAp.add (t := 60) (v := .bool (((decide (b ≤ d)) || (decide ((f.n : Int) ≤ b))) || (decide (c < 0)))) (hT.vals 16 rfl 60 rfl)
    exact opk_gval hAp rfl rfl (g := true) (e := (((decide (b ≤ d)) || (decide ((f.n : Int) ≤ b))) || (decide (c < 0)))) rfl (fun hg => r_fieldAddr (hAp.get rfl) Try.underlying40 rfl ti_3 (by decide)) fun _ _ e => ⟨_, e, Chg.refl _ _, fun _ => Eq.refl _⟩
   ·intro a w hT
    have hAp := hT.ag k [] trivial (by kernel_rfl)
    have hAp := hAp.add (t := 60) (v := .bool (((decide (b ≤ d)) || (decide ((f.n : Int) ≤ b))) || (decide (c < 0)))) (hT.vals 16 rfl 60 rfl)
    have hAp := hAp.add (t := 61) (v := cV (true && ((((decide (b ≤ d)) || (decide ((f.n : Int) ≤ b))) || (decide (c < 0))) == false)) (pB q 1)) (hT.vals 17 rfl 61 rfl)
    exact opk_gval hAp rfl rfl (g := true) (e := (((decide (b ≤ d)) || (decide ((f.n : Int) ≤ b))) || (decide (c < 0)))) rfl (fun hg => r_load1 tU3 rfl (cv_get (hAp.get rfl) hg) ((ad.ext hT.chg).cell 1 _ rfl)) fun _ _ e => ⟨_, e, Chg.refl _ _, fun _ => Eq.refl _⟩
   ·intro a w hT
    have hAp := hT.ag k [(8, Sl.v i)] ⟨rfl, trivial⟩ (by kernel_rfl)
    have hAp := hAp.add (t := 60) (v := .bool (((decide (b ≤ d)) || (decide ((f.n : Int) ≤ b))) || (decide (c < 0)))) (hT.vals 16 rfl 60 rfl)
    exact opk_gval hAp rfl rfl (g := true) (e := (((decide (b ≤ d)) || (decide ((f.n : Int) ≤ b))) || (decide (c < 0)))) rfl (fun hg => r_move (hAp.get rfl)) fun _ _ e => ⟨_, e, Chg.refl _ _, fun _ => Eq.refl _⟩
   ·intro a w hT
    have hAp := hT.ag k [] trivial (by kernel_rfl)
    have hAp := hAp.add (t := 60) (v := .bool (((decide (b ≤ d)) || (decide ((f.n : Int) ≤ b))) || (decide (c < 0)))) (hT.vals 16 rfl 60 rfl)
    have hAp := hAp.add (t := 63) (v := cV (true && ((((decide (b ≤ d)) || (decide ((f.n : Int) ≤ b))) || (decide (c < 0))) == false)) (Sl.v i)) (hT.vals 19 rfl 63 rfl)
    exact opk_gval hAp rfl rfl (g := true) (e := (((decide (b ≤ d)) || (decide ((f.n : Int) ≤ b))) || (decide (c < 0)))) rfl (fun hg => r_len (cv_get (hAp.get rfl) hg) tU79) fun _ _ e => ⟨_, e, Chg.refl _ _, fun _ => Eq.refl _⟩
   ·intro a w hT
    have hAp := hT.ag k [] trivial (by kernel_rfl)
    have hAp := hAp.add (t := 60) (v := .bool (((decide (b ≤ d)) || (decide ((f.n : Int) ≤ b))) || (decide (c < 0)))) (hT.vals 16 rfl 60 rfl)
    have hAp := hAp.add (t := 62) (v := cV (true && ((((decide (b ≤ d)) || (decide ((f.n : Int) ≤ b))) || (decide (c < 0))) == false)) (.int .i64 c)) (hT.vals 18 rfl 62 rfl)
    have hAp := hAp.add (t := 64) (v := cV (true && ((((decide (b ≤ d)) || (decide ((f.n : Int) ≤ b))) || (decide (c < 0))) == false)) (.int .i64 (i.n : Int))) (hT.vals 20 rfl 64 rfl)
    exact opk_gval hAp rfl rfl (g := true) (e := (((decide (b ≤ d)) || (decide ((f.n : Int) ≤ b))) || (decide (c < 0)))) rfl (fun hg => r_geq (cv_get (hAp.get rfl) hg) (cv_get (hAp.get rfl) hg)) fun _ _ e => ⟨_, e, Chg.refl _ _, fun _ => Eq.refl _⟩
   ·intro a w hT
    have hAp := hT.ag k [] trivial (by kernel_rfl)
    have hAp := hAp.add (t := 60) (v := .bool (((decide (b ≤ d)) || (decide ((f.n : Int) ≤ b))) || (decide (c < 0)))) (hT.vals 16 rfl 60 rfl)
    have hAp := hAp.add (t := 65) (v := cV (true && ((((decide (b ≤ d)) || (decide ((f.n : Int) ≤ b))) || (decide (c < 0))) == false)) (.bool (decide ((i.n : Int) ≤ c)))) (hT.vals 21 rfl 65 rfl)
    exact ovr hAp rfl (r_pick_or (g := (true && ((((decide (b ≤ d)) || (decide ((f.n : Int) ≤ b))) || (decide (c < 0))) == false))) (hAp.get rfl) (hAp.get rfl) (fun he => g_mkf rfl he)) fun _ => Eq.refl _
   ·intro a w hT
    have hAp := hT.ag k [] trivial (by kernel_rfl)
    have hAp := hAp.add (t := 66) (v := .bool ((((decide (b ≤ d)) || (decide ((f.n : Int) ≤ b))) || (decide (c < 0))) || (decide ((i.n : Int) ≤ c)))) (hT.vals 22 rfl 66 rfl)
    exact ovr hAp rfl (r_move (hAp.get rfl)) fun _ => Eq.refl _
   ·intro a w hT
    have hAp := hT.ag k [(10, .map y)] ⟨rfl, trivial⟩ (by kernel_rfl)
    have hAp := hAp.add (t := 67) (v := .bool ((((decide (b ≤ d)) || (decide ((f.n : Int) ≤ b))) || (decide (c < 0))) || (decide ((i.n : Int) ≤ c)))) (hT.vals 23 rfl 67 rfl)
    exact opk_gval hAp rfl rfl (g := true) (e := ((((decide (b ≤ d)) || (decide ((f.n : Int) ≤ b))) || (decide (c < 0))) || (decide ((i.n : Int) ≤ c)))) rfl (fun hg => r_move (hAp.get rfl)) fun _ _ e => ⟨_, e, Chg.refl _ _, fun _ => Eq.refl _⟩
   ·intro a w hT
    have hAp := hT.ag k [(12, pB q 0)] ⟨rfl, trivial⟩ (by kernel_rfl)
    have hAp := hAp.add (t := 67) (v := .bool ((((decide (b ≤ d)) || (decide ((f.n : Int) ≤ b))) || (decide (c < 0))) || (decide ((i.n : Int) ≤ c)))) (hT.vals 23 rfl 67 rfl)
    exact opk_gval hAp rfl rfl (g := true) (e := ((((decide (b ≤ d)) || (decide ((f.n : Int) ≤ b))) || (decide (c < 0))) || (decide ((i.n : Int) ≤ c)))) rfl (fun hg => r_fieldAddr (hAp.get rfl) Try.underlying40 rfl ti_3 (by decide)) fun _ _ e => ⟨_, e, Chg.refl _ _, fun _ => Eq.refl _⟩
   ·intro a w hT
    have hAp := hT.ag k [] trivial (by kernel_rfl)
    have hAp := hAp.add (t := 67) (v := .bool ((((decide (b ≤ d)) || (decide ((f.n : Int) ≤ b))) || (decide (c < 0))) || (decide ((i.n : Int) ≤ c)))) (hT.vals 23 rfl 67 rfl)
    have hAp := hAp.add (t := 69) (v := cV (true && (((((decide (b ≤ d)) || (decide ((f.n : Int) ≤ b))) || (decide (c < 0))) || (decide ((i.n : Int) ≤ c))) == false)) (pB q 1)) (hT.vals 25 rfl 69 rfl)
    exact opk_gval hAp rfl rfl (g := true) (e := ((((decide (b ≤ d)) || (decide ((f.n : Int) ≤ b))) || (decide (c < 0))) || (decide ((i.n : Int) ≤ c)))) rfl (fun hg => r_load1 tU3 rfl (cv_get (hAp.get rfl) hg) ((ad.ext hT.chg).cell 1 _ rfl)) fun _ _ e => ⟨_, e, Chg.refl _ _, fun _ => Eq.refl _⟩
   ·intro a w hT
    have hAp := hT.ag k [] trivial (by kernel_rfl)
    have hAp := hAp.add (t := 67) (v := .bool ((((decide (b ≤ d)) || (decide ((f.n : Int) ≤ b))) || (decide (c < 0))) || (decide ((i.n : Int) ≤ c)))) (hT.vals 23 rfl 67 rfl)
    have hAp := hAp.add (t := 68) (v := cV (true && (((((decide (b ≤ d)) || (decide ((f.n : Int) ≤ b))) || (decide (c < 0))) || (decide ((i.n : Int) ≤ c))) == false)) (.map y)) (hT.vals 24 rfl 68 rfl)
    have hAp := hAp.add (t := 70) (v := cV (true && (((((decide (b ≤ d)) || (decide ((f.n : Int) ≤ b))) || (decide (c < 0))) || (decide ((i.n : Int) ≤ c))) == false)) (.int .i64 c)) (hT.vals 26 rfl 70 rfl)
    exact opk_gval hAp rfl rfl (g := true) (e := ((((decide (b ≤ d)) || (decide ((f.n : Int) ≤ b))) || (decide (c < 0))) || (decide ((i.n : Int) ≤ c)))) rfl (fun hg => r_lookup (cv_get (hAp.get rfl) hg) (cv_get (hAp.get rfl) hg) ((bL ⟨⟨⟨(of_decide_eq_false (b_or_f (b_or_f (b_or_f (g_f hg)).1).1).1), (of_decide_eq_false (b_or_f (b_or_f (b_or_f (g_f hg)).1).1).2)⟩, (of_decide_eq_false (b_or_f (b_or_f (g_f hg)).1).2)⟩, (of_decide_eq_false (b_or_f (g_f hg)).2)⟩) _ hT.chg)) fun _ _ e => ⟨_, e, Chg.refl _ _, fun _ => Eq.refl _⟩
   ·intro a w hT
    have hAp := hT.ag k [] trivial (by kernel_rfl)
    have hAp := hAp.add (t := 67) (v := .bool ((((decide (b ≤ d)) || (decide ((f.n : Int) ≤ b))) || (decide (c < 0))) || (decide ((i.n : Int) ≤ c)))) (hT.vals 23 rfl 67 rfl)
    have hAp := hAp.add (t := 71) (v := cV (true && (((((decide (b ≤ d)) || (decide ((f.n : Int) ≤ b))) || (decide (c < 0))) || (decide ((i.n : Int) ≤ c))) == false)) (.bool j)) (hT.vals 27 rfl 71 rfl)
    exact ovr hAp rfl (r_pick_or (g := (true && (((((decide (b ≤ d)) || (decide ((f.n : Int) ≤ b))) || (decide (c < 0))) || (decide ((i.n : Int) ≤ c))) == false))) (hAp.get rfl) (hAp.get rfl) (fun he => g_mkf rfl he)) fun _ => Eq.refl _
   ·intro a w hT
    have hAp := hT.ag k [] trivial (by kernel_rfl)
    have hAp := hAp.add (t := 72) (v := .bool (((((decide (b ≤ d)) || (decide ((f.n : Int) ≤ b))) || (decide (c < 0))) || (decide ((i.n : Int) ≤ c))) || j)) (hT.vals 28 rfl 72 rfl)
    exact ovr hAp rfl (r_move (hAp.get rfl)) fun _ => Eq.refl _
   ·intro a w hT
    have hAp := hT.ag k [(7, Sl.v f)] ⟨rfl, trivial⟩ (by kernel_rfl)
    have hAp := hAp.add (t := 73) (v := .bool (((((decide (b ≤ d)) || (decide ((f.n : Int) ≤ b))) || (decide (c < 0))) || (decide ((i.n : Int) ≤ c))) || j)) (hT.vals 29 rfl 73 rfl)
    exact opk_gval hAp rfl rfl (g := true) (e := (((((decide (b ≤ d)) || (decide ((f.n : Int) ≤ b))) || (decide (c < 0))) || (decide ((i.n : Int) ≤ c))) || j)) rfl (fun hg => r_move (hAp.get rfl)) fun _ _ e => ⟨_, e, Chg.refl _ _, fun _ => Eq.refl _⟩
   ·intro a w hT
    have hAp := hT.ag k [(12, pB q 0)] ⟨rfl, trivial⟩ (by kernel_rfl)
    have hAp := hAp.add (t := 73) (v := .bool (((((decide (b ≤ d)) || (decide ((f.n : Int) ≤ b))) || (decide (c < 0))) || (decide ((i.n : Int) ≤ c))) || j)) (hT.vals 29 rfl 73 rfl)
    exact opk_gval hAp rfl rfl (g := true) (e := (((((decide (b ≤ d)) || (decide ((f.n : Int) ≤ b))) || (decide (c < 0))) || (decide ((i.n : Int) ≤ c))) || j)) rfl (fun hg => r_fieldAddr (hAp.get rfl) Try.underlying40 rfl ti_3 (by decide)) fun _ _ e => ⟨_, e, Chg.refl _ _, fun _ => Eq.refl _⟩
   ·intro a w hT
    have hAp := hT.ag k [] trivial (by kernel_rfl)
    have hAp := hAp.add (t := 73) (v := .bool (((((decide (b ≤ d)) || (decide ((f.n : Int) ≤ b))) || (decide (c < 0))) || (decide ((i.n : Int) ≤ c))) || j)) (hT.vals 29 rfl 73 rfl)
    have hAp := hAp.add (t := 75) (v := cV (true && ((((((decide (b ≤ d)) || (decide ((f.n : Int) ≤ b))) || (decide (c < 0))) || (decide ((i.n : Int) ≤ c))) || j) == false)) (pB q 0)) (hT.vals 31 rfl 75 rfl)
    exact opk_gval hAp rfl rfl (g := true) (e := (((((decide (b ≤ d)) || (decide ((f.n : Int) ≤ b))) || (decide (c < 0))) || (decide ((i.n : Int) ≤ c))) || j)) rfl (fun hg => r_load1 tU3 rfl (cv_get (hAp.get rfl) hg) ((ad.ext hT.chg).cell 0 _ rfl)) fun _ _ e => ⟨_, e, Chg.refl _ _, fun _ => Eq.refl _⟩
   ·intro a w hT
    have hAp := hT.ag k [] trivial (by kernel_rfl)
    have hAp := hAp.add (t := 73) (v := .bool (((((decide (b ≤ d)) || (decide ((f.n : Int) ≤ b))) || (decide (c < 0))) || (decide ((i.n : Int) ≤ c))) || j)) (hT.vals 29 rfl 73 rfl)
    have hAp := hAp.add (t := 74) (v := cV (true && ((((((decide (b ≤ d)) || (decide ((f.n : Int) ≤ b))) || (decide (c < 0))) || (decide ((i.n : Int) ≤ c))) || j) == false)) (Sl.v f)) (hT.vals 30 rfl 74 rfl)
    have hAp := hAp.add (t := 76) (v := cV (true && ((((((decide (b ≤ d)) || (decide ((f.n : Int) ≤ b))) || (decide (c < 0))) || (decide ((i.n : Int) ≤ c))) || j) == false)) (.int .i64 b)) (hT.vals 32 rfl 76 rfl)
    exact opk_gval hAp rfl rfl (g := true) (e := (((((decide (b ≤ d)) || (decide ((f.n : Int) ≤ b))) || (decide (c < 0))) || (decide ((i.n : Int) ≤ c))) || j)) rfl (fun hg => r_indexAddr (cv_get (hAp.get rfl) hg) (cv_get (hAp.get rfl) hg) tU79 ti_86 (bq ⟨⟨⟨⟨(of_decide_eq_false (b_or_f (b_or_f (b_or_f (b_or_f (g_f hg)).1).1).1).1), (of_decide_eq_false (b_or_f (b_or_f (b_or_f (b_or_f (g_f hg)).1).1).1).2)⟩, (of_decide_eq_false (b_or_f (b_or_f (b_or_f (g_f hg)).1).1).2)⟩, (of_decide_eq_false (b_or_f (b_or_f (g_f hg)).1).2)⟩, (b_or_f (g_f hg)).2⟩).1 (bq ⟨⟨⟨⟨(of_decide_eq_false (b_or_f (b_or_f (b_or_f (b_or_f (g_f hg)).1).1).1).1), (of_decide_eq_false (b_or_f (b_or_f (b_or_f (b_or_f (g_f hg)).1).1).1).2)⟩, (of_decide_eq_false (b_or_f (b_or_f (b_or_f (g_f hg)).1).1).2)⟩, (of_decide_eq_false (b_or_f (b_or_f (g_f hg)).1).2)⟩, (b_or_f (g_f hg)).2⟩).2) fun _ _ e => ⟨_, e, Chg.refl _ _, fun _ => Eq.refl _⟩
   ·intro a w hT
    have hAp := hT.ag k [] trivial (by kernel_rfl)
    have hAp := hAp.add (t := 73) (v := .bool (((((decide (b ≤ d)) || (decide ((f.n : Int) ≤ b))) || (decide (c < 0))) || (decide ((i.n : Int) ≤ c))) || j)) (hT.vals 29 rfl 73 rfl)
    have hAp := hAp.add (t := 77) (v := cV (true && ((((((decide (b ≤ d)) || (decide ((f.n : Int) ≤ b))) || (decide (c < 0))) || (decide ((i.n : Int) ≤ c))) || j) == false)) (.pointer (some (a0.add (b.toNat * 10))))) (hT.vals 33 rfl 77 rfl)
    exact opk_gval hAp rfl rfl (g := true) (e := (((((decide (b ≤ d)) || (decide ((f.n : Int) ≤ b))) || (decide (c < 0))) || (decide ((i.n : Int) ≤ c))) || j)) rfl (fun hg => r_loadN Try.underlying86 rfl ti_86 (cv_get (hAp.get rfl) hg) ((bO ⟨⟨⟨⟨(of_decide_eq_false (b_or_f (b_or_f (b_or_f (b_or_f (g_f hg)).1).1).1).1), (of_decide_eq_false (b_or_f (b_or_f (b_or_f (b_or_f (g_f hg)).1).1).1).2)⟩, (of_decide_eq_false (b_or_f (b_or_f (b_or_f (g_f hg)).1).1).2)⟩, (of_decide_eq_false (b_or_f (b_or_f (g_f hg)).1).2)⟩, (b_or_f (g_f hg)).2⟩).ext hT.chg)) fun _ _ e => ⟨_, e, Chg.refl _ _, fun _ => Eq.refl _⟩
   ·intro a w hT
    have hAp := hT.ag k [] trivial (by kernel_rfl)
    have hAp := hAp.add (t := 73) (v := .bool (((((decide (b ≤ d)) || (decide ((f.n : Int) ≤ b))) || (decide (c < 0))) || (decide ((i.n : Int) ≤ c))) || j)) (hT.vals 29 rfl 73 rfl)
    have hAp := hAp.add (t := 78) (v := cV (true && ((((((decide (b ≤ d)) || (decide ((f.n : Int) ≤ b))) || (decide (c < 0))) || (decide ((i.n : Int) ≤ c))) || j) == false)) (.agg #[.int .i64 al, .int .i64 am, .int .i64 an, .int .i64 ao, .int .i64 ap, .int .i64 aq, .string (Bs ar), .string (Bs au), Sl.v av, Sl.v ax])) (hT.vals 34 rfl 78 rfl)
    exact opk_gcallM hAp rfl rfl (g := true) (e := (((((decide (b ≤ d)) || (decide ((f.n : Int) ≤ b))) || (decide (c < 0))) || (decide ((i.n : Int) ≤ c))) || j)) rfl (fun hg => r_call (args := #[.agg #[.int .i64 al, .int .i64 am, .int .i64 an, .int .i64 ao, .int .i64 ap, .int .i64 aq, .string (Bs ar), .string (Bs au), Sl.v av, Sl.v ax]]) Try.func61 (by decide) rfl (map_arr (ml_cons (cv_get (hAp.get rfl) hg) ml_nil)) rfl) (fun hg => bQ ⟨⟨⟨⟨(of_decide_eq_false (b_or_f (b_or_f (b_or_f (b_or_f (g_f hg)).1).1).1).1), (of_decide_eq_false (b_or_f (b_or_f (b_or_f (b_or_f (g_f hg)).1).1).1).2)⟩, (of_decide_eq_false (b_or_f (b_or_f (b_or_f (g_f hg)).1).1).2)⟩, (of_decide_eq_false (b_or_f (b_or_f (g_f hg)).1).2)⟩, (b_or_f (g_f hg)).2⟩ w hT.chg) fun _ _ _ _ e hE hR => ⟨_, e, hE, fun _ => by obtain ⟨⟨l, m⟩, hx, hV⟩ := cvty (α := Int × Str) (fun s => .agg #[.int .i64 s.1, .string (Bs s.2)]) (fun s w => z s.1 s.2 w) (fun hg => by obtain ⟨l, m, h1, h2⟩ := hR hg; exact ⟨(l, m), h1, h2⟩); exact ⟨l, m, fun hp => hV (g_mkf rfl (b_or_mkf ⟨(b_or_mkf ⟨(b_or_mkf ⟨(b_or_mkf ⟨(decide_eq_false hp.1.1.1.1), (decide_eq_false hp.1.1.1.2)⟩), (decide_eq_false hp.1.1.2)⟩), (decide_eq_false hp.1.2)⟩), hp.2⟩)), hx⟩⟩
   ·intro a w hT
    have hAp := hT.ag k [(8, Sl.v i)] ⟨rfl, trivial⟩ (by kernel_rfl)
    have hAp := hAp.add (t := 73) (v := .bool (((((decide (b ≤ d)) || (decide ((f.n : Int) ≤ b))) || (decide (c < 0))) || (decide ((i.n : Int) ≤ c))) || j)) (hT.vals 29 rfl 73 rfl)
    exact opk_gval hAp rfl rfl (g := true) (e := (((((decide (b ≤ d)) || (decide ((f.n : Int) ≤ b))) || (decide (c < 0))) || (decide ((i.n : Int) ≤ c))) || j)) rfl (fun hg => r_move (hAp.get rfl)) fun _ _ e => ⟨_, e, Chg.refl _ _, fun _ => Eq.refl _⟩
   ·intro a w hT
    have hAp := hT.ag k [(12, pB q 0)] ⟨rfl, trivial⟩ (by kernel_rfl)
    have hAp := hAp.add (t := 73) (v := .bool (((((decide (b ≤ d)) || (decide ((f.n : Int) ≤ b))) || (decide (c < 0))) || (decide ((i.n : Int) ≤ c))) || j)) (hT.vals 29 rfl 73 rfl)
    exact opk_gval hAp rfl rfl (g := true) (e := (((((decide (b ≤ d)) || (decide ((f.n : Int) ≤ b))) || (decide (c < 0))) || (decide ((i.n : Int) ≤ c))) || j)) rfl (fun hg => r_fieldAddr (hAp.get rfl) Try.underlying40 rfl ti_3 (by decide)) fun _ _ e => ⟨_, e, Chg.refl _ _, fun _ => Eq.refl _⟩
   ·intro a w hT
    have hAp := hT.ag k [] trivial (by kernel_rfl)
    have hAp := hAp.add (t := 73) (v := .bool (((((decide (b ≤ d)) || (decide ((f.n : Int) ≤ b))) || (decide (c < 0))) || (decide ((i.n : Int) ≤ c))) || j)) (hT.vals 29 rfl 73 rfl)
    have hAp := hAp.add (t := 81) (v := cV (true && ((((((decide (b ≤ d)) || (decide ((f.n : Int) ≤ b))) || (decide (c < 0))) || (decide ((i.n : Int) ≤ c))) || j) == false)) (pB q 1)) (hT.vals 37 rfl 81 rfl)
    exact opk_gval hAp rfl rfl (g := true) (e := (((((decide (b ≤ d)) || (decide ((f.n : Int) ≤ b))) || (decide (c < 0))) || (decide ((i.n : Int) ≤ c))) || j)) rfl (fun hg => r_load1 tU3 rfl (cv_get (hAp.get rfl) hg) ((ad.ext hT.chg).cell 1 _ rfl)) fun _ _ e => ⟨_, e, Chg.refl _ _, fun _ => Eq.refl _⟩
   ·intro a w hT
    have hAp := hT.ag k [] trivial (by kernel_rfl)
    have hAp := hAp.add (t := 73) (v := .bool (((((decide (b ≤ d)) || (decide ((f.n : Int) ≤ b))) || (decide (c < 0))) || (decide ((i.n : Int) ≤ c))) || j)) (hT.vals 29 rfl 73 rfl)
    have hAp := hAp.add (t := 80) (v := cV (true && ((((((decide (b ≤ d)) || (decide ((f.n : Int) ≤ b))) || (decide (c < 0))) || (decide ((i.n : Int) ≤ c))) || j) == false)) (Sl.v i)) (hT.vals 36 rfl 80 rfl)
    have hAp := hAp.add (t := 82) (v := cV (true && ((((((decide (b ≤ d)) || (decide ((f.n : Int) ≤ b))) || (decide (c < 0))) || (decide ((i.n : Int) ≤ c))) || j) == false)) (.int .i64 c)) (hT.vals 38 rfl 82 rfl)
    exact opk_gval hAp rfl rfl (g := true) (e := (((((decide (b ≤ d)) || (decide ((f.n : Int) ≤ b))) || (decide (c < 0))) || (decide ((i.n : Int) ≤ c))) || j)) rfl (fun hg => r_indexAddr (cv_get (hAp.get rfl) hg) (cv_get (hAp.get rfl) hg) tU79 ti_86 (bt ⟨⟨⟨⟨(of_decide_eq_false (b_or_f (b_or_f (b_or_f (b_or_f (g_f hg)).1).1).1).1), (of_decide_eq_false (b_or_f (b_or_f (b_or_f (b_or_f (g_f hg)).1).1).1).2)⟩, (of_decide_eq_false (b_or_f (b_or_f (b_or_f (g_f hg)).1).1).2)⟩, (of_decide_eq_false (b_or_f (b_or_f (g_f hg)).1).2)⟩, (b_or_f (g_f hg)).2⟩).1 (bt ⟨⟨⟨⟨(of_decide_eq_false (b_or_f (b_or_f (b_or_f (b_or_f (g_f hg)).1).1).1).1), (of_decide_eq_false (b_or_f (b_or_f (b_or_f (b_or_f (g_f hg)).1).1).1).2)⟩, (of_decide_eq_false (b_or_f (b_or_f (b_or_f (g_f hg)).1).1).2)⟩, (of_decide_eq_false (b_or_f (b_or_f (g_f hg)).1).2)⟩, (b_or_f (g_f hg)).2⟩).2) fun _ _ e => ⟨_, e, Chg.refl _ _, fun _ => Eq.refl _⟩
   ·intro a w hT
    have hAp := hT.ag k [] trivial (by kernel_rfl)
    have hAp := hAp.add (t := 73) (v := .bool (((((decide (b ≤ d)) || (decide ((f.n : Int) ≤ b))) || (decide (c < 0))) || (decide ((i.n : Int) ≤ c))) || j)) (hT.vals 29 rfl 73 rfl)
    have hAp := hAp.add (t := 83) (v := cV (true && ((((((decide (b ≤ d)) || (decide ((f.n : Int) ≤ b))) || (decide (c < 0))) || (decide ((i.n : Int) ≤ c))) || j) == false)) (.pointer (some (a1.add (c.toNat * 10))))) (hT.vals 39 rfl 83 rfl)
    exact opk_gval hAp rfl rfl (g := true) (e := (((((decide (b ≤ d)) || (decide ((f.n : Int) ≤ b))) || (decide (c < 0))) || (decide ((i.n : Int) ≤ c))) || j)) rfl (fun hg => r_loadN Try.underlying86 rfl ti_86 (cv_get (hAp.get rfl) hg) ((bT ⟨⟨⟨⟨(of_decide_eq_false (b_or_f (b_or_f (b_or_f (b_or_f (g_f hg)).1).1).1).1), (of_decide_eq_false (b_or_f (b_or_f (b_or_f (b_or_f (g_f hg)).1).1).1).2)⟩, (of_decide_eq_false (b_or_f (b_or_f (b_or_f (g_f hg)).1).1).2)⟩, (of_decide_eq_false (b_or_f (b_or_f (g_f hg)).1).2)⟩, (b_or_f (g_f hg)).2⟩).ext hT.chg)) fun _ _ e => ⟨_, e, Chg.refl _ _, fun _ => Eq.refl _⟩
   ·intro a w hT
    have hAp := hT.ag k [] trivial (by kernel_rfl)
    have hAp := hAp.add (t := 73) (v := .bool (((((decide (b ≤ d)) || (decide ((f.n : Int) ≤ b))) || (decide (c < 0))) || (decide ((i.n : Int) ≤ c))) || j)) (hT.vals 29 rfl 73 rfl)
    have hAp := hAp.add (t := 84) (v := cV (true && ((((((decide (b ≤ d)) || (decide ((f.n : Int) ≤ b))) || (decide (c < 0))) || (decide ((i.n : Int) ≤ c))) || j) == false)) (.agg #[.int .i64 ay, .int .i64 az, .int .i64 aA, .int .i64 aB, .int .i64 aC, .int .i64 aD, .string (Bs aG), .string (Bs aH), Sl.v aI, Sl.v aJ])) (hT.vals 40 rfl 84 rfl)
    exact opk_gcallM hAp rfl rfl (g := true) (e := (((((decide (b ≤ d)) || (decide ((f.n : Int) ≤ b))) || (decide (c < 0))) || (decide ((i.n : Int) ≤ c))) || j)) rfl (fun hg => r_call (args := #[.agg #[.int .i64 ay, .int .i64 az, .int .i64 aA, .int .i64 aB, .int .i64 aC, .int .i64 aD, .string (Bs aG), .string (Bs aH), Sl.v aI, Sl.v aJ]]) Try.func61 (by decide) rfl (map_arr (ml_cons (cv_get (hAp.get rfl) hg) ml_nil)) rfl) (fun hg => bV ⟨⟨⟨⟨(of_decide_eq_false (b_or_f (b_or_f (b_or_f (b_or_f (g_f hg)).1).1).1).1), (of_decide_eq_false (b_or_f (b_or_f (b_or_f (b_or_f (g_f hg)).1).1).1).2)⟩, (of_decide_eq_false (b_or_f (b_or_f (b_or_f (g_f hg)).1).1).2)⟩, (of_decide_eq_false (b_or_f (b_or_f (g_f hg)).1).2)⟩, (b_or_f (g_f hg)).2⟩ w hT.chg) fun _ _ _ _ e hE hR => ⟨_, e, hE, fun _ => by obtain ⟨⟨o, p⟩, hx, hV⟩ := cvty (α := Int × Str) (fun s => .agg #[.int .i64 s.1, .string (Bs s.2)]) (fun s w => aa s.1 s.2 w) (fun hg => by obtain ⟨o, p, h1, h2⟩ := hR hg; exact ⟨(o, p), h1, h2⟩); exact ⟨o, p, fun hp => hV (g_mkf rfl (b_or_mkf ⟨(b_or_mkf ⟨(b_or_mkf ⟨(b_or_mkf ⟨(decide_eq_false hp.1.1.1.1), (decide_eq_false hp.1.1.1.2)⟩), (decide_eq_false hp.1.1.2)⟩), (decide_eq_false hp.1.2)⟩), hp.2⟩)), hx⟩⟩
   ·intro a w hT
    have hAp := hT.ag k [] trivial (by kernel_rfl)
    have hAp := hAp.add (t := 73) (v := .bool (((((decide (b ≤ d)) || (decide ((f.n : Int) ≤ b))) || (decide (c < 0))) || (decide ((i.n : Int) ≤ c))) || j)) (hT.vals 29 rfl 73 rfl)
    obtain ⟨l, m, bY, bZ⟩ := hT.vals 35 rfl 79 rfl
    have hAp := hAp.add bZ
    obtain ⟨o, p, b0, b1⟩ := hT.vals 41 rfl 85 rfl
    have hAp := hAp.add b1
    exact opk_gval hAp rfl rfl (g := true) (e := (((((decide (b ≤ d)) || (decide ((f.n : Int) ≤ b))) || (decide (c < 0))) || (decide ((i.n : Int) ≤ c))) || j)) rfl (fun hg => r_aneqd (cv_get (hAp.get rfl) hg) (cv_get (hAp.get rfl) hg) (eq_109 _ _ _ _)) fun _ _ e => ⟨_, e, Chg.refl _ _, fun _ => ⟨l, m, o, p, bY, b0, rfl⟩⟩
   ·intro a w hT
    have hAp := hT.ag k [] trivial (by kernel_rfl)
    have hAp := hAp.add (t := 73) (v := .bool (((((decide (b ≤ d)) || (decide ((f.n : Int) ≤ b))) || (decide (c < 0))) || (decide ((i.n : Int) ≤ c))) || j)) (hT.vals 29 rfl 73 rfl)
    obtain ⟨l, m, o, p, b2, b3, b4⟩ := hT.vals 42 rfl 86 rfl
    have hAp := hAp.add b4
    exact opk_val hAp rfl (r_pick_or (g := (true && ((((((decide (b ≤ d)) || (decide ((f.n : Int) ≤ b))) || (decide (c < 0))) || (decide ((i.n : Int) ≤ c))) || j) == false))) (hAp.get rfl) (hAp.get rfl) (fun he => g_mkf rfl he)) fun _ _ e => ⟨_, e, Chg.refl _ _, fun _ => ⟨l, m, o, p, b2, b3, rfl⟩⟩
   ·intro ck ab bl b5 b6
    have b7 := b5 [(7, Sl.v f), (8, Sl.v i), (10, .map y), (12, pB q 0), (38, Sl.v r), (39, .int .i64 (r.n : Int)), (40, .int .i64 u)] ⟨rfl, rfl, rfl, rfl, rfl, rfl, rfl, trivial⟩ (by kernel_rfl)
    obtain ⟨l, m, o, p, b8, b9, ca⟩ := b6 43 rfl 87 rfl
    have cb := b7.add ca
    have cc := ad.ext bl
    have cl : Chg [] x ab := bl
    have cd := bX ab l m o p bl b8 b9
    refine PR_end (by kernel_rfl) ?_
    have cf := cb.kp [(7, Sl.v f), (8, Sl.v i), (10, .map y), (12, pB q 0), (38, Sl.v r), (39, .int .i64 (r.n : Int)), (40, .int .i64 u), (87, .bool ((((((decide (b ≤ d)) || (decide ((f.n : Int) ≤ b))) || (decide (c < 0))) || (decide ((i.n : Int) ≤ c))) || j) || (decide (¬ (l = o ∧ m = p)))))] rfl
    refine gK (bs := [(q, 40, [.int .i64 b, .int .i64 c])]) (N := []) cf (Chg.refl [] _) ⟨cc, trivial⟩ (by simp) trivial (by simp) cd ?_
    refine tn ?_
    refine gi (fun h => ((oT h).imp (fun h => ((oT h).imp (fun h => ((oT h).imp (fun h => ((oT h).imp (fun h => ((oT h).imp (fun h => (dT h)) (fun h => (dT h)))) (fun h => (dT h)))) (fun h => (dT h)))) (fun h => h))) (fun h => (dT h)))) (fun h => ⟨⟨⟨⟨⟨(dF (oF (oF (oF (oF (oF h).1).1).1).1).1), (dF (oF (oF (oF (oF (oF h).1).1).1).1).2)⟩, (dF (oF (oF (oF (oF h).1).1).1).2)⟩, (dF (oF (oF (oF h).1).1).2)⟩, (oF (oF h).1).2⟩, (dF (oF h).2)⟩) ?_ ?_
    ·refine gS <| gR <| gN <| ge <| tn <| gr <| tr <| br <| tr <| tr <| br <| tr ?_
     exact gz1
    ·refine gk <| tn <| gS <| gR <| gF 0 Try.underlying40 ti_3 ?_
     refine gB 0 tU3 ?_
     refine gN <| ge <| tn <| gR ?_
     refine gM ?_
     refine gF 1 Try.underlying40 ti_3 ?_
     refine gB 0 tU3 ?_
     refine gU3 [0] r_mapUpdate fun bd => ge <| bn <| tn <| gR ?_
     refine g2s r_addI ?_
     refine gM <| ge ?_
     exact k2 []
  ·refine gx <| te <| te <| bh <| tn <| gS <| gR <| gN <| ge <| tn <| gr ?_
   exact gz1
def match_of.vc (d : Int) (f : Int) (g : Int) (h : Int) (i : Int) (b : Int) (c : Str) (j : Str) (k : Sl) (l : Sl) (R : Value → World → Prop) (w : World) : Prop :=
∀ (a : World) (m : Nat) (n : Nat), New w m a → New w n a → m ≠ n → Chg [] w a →
R (.agg #[.int .i64 b, .string (Bs c)]) a
theorem match_of.ok (d : Int) (f : Int) (g : Int) (h : Int) (i : Int) (b : Int) (c : Str) (j : Str) (k : Sl) (l : Sl) {R : Value → World → Prop} {w : World} (o : match_of.vc d f g h i b c j k l R w) : Calls Try.prog 61 #[.agg #[.int .i64 d, .int .i64 f, .int .i64 g, .int .i64 h, .int .i64 i, .int .i64 b, .string (Bs c), .string (Bs j), Sl.v k, Sl.v l]] w (Ret R) := by
 refine go _ Try.func61 Try.ntmps61 o ?_
 refine gS <| gR <| nb fun p m => ?_
 refine na ti_109 fun q n => ge <| tn <| gS <| gR ?_
 refine gF 5 Try.underlying86 ti_26 ?_
 refine gF 0 Try.underlying26 ti_3 ?_
 refine gB 1 tU3 ?_
 refine gF 5 Try.underlying86 ti_26 ?_
 refine gF 1 Try.underlying26 ti_9 ?_
 refine gB 1 tU9 ?_
 refine gbu ti_109 Try.underlying109 pl_109 (OPs.of rfl) ?_
 refine wn 0 0 ti_109 fun a => ge <| tn <| gr <| gT2 ?_
 exact gzB 0 Try.underlying109 ti_109
end Go.Proofs.Yteohbfaechfliaa
