/-
  PRINTED BY PROGRAM: for each function its condition (vc), and that this suffices (ok).
-/
import Derived.Test.YtghmgfkdnolcdaaGreatQApplyAllGT
namespace Go.Proofs.YtghmgfkdnolcdaaGreat
open Go.RowKit
set_option linter.unusedVariables false
set_option maxHeartbeats 1000000
set_option maxRecDepth 10000
def ref06_New.vc (a : Int) (b : Str) (c : Str) (d : Sl) (f : Sl) (R : Value → World → Prop) (w : World) : Prop :=
∀ (i : World) (j : Nat), New w j i → Chg [] w i →
CallK Tryz.prog 49 #[.agg #[.int .i64 a, .string (Bs b), .string (Bs c), Sl.v d, Sl.v f]] i [j] (fun v k => ∃ (l : Bool), v = .bool l ∧
((l = false) →
R (.pointer none) k) ∧
((l = true) →
∀ (g : World) (h : Nat), New k h g → Chg [] k g →
∀ (_ : Box g h 74 [Sl.v Sl.nil]),
CallK Tryz.prog 50 #[.pointer (some (⟨h, 0, none⟩ : Addr)), .agg #[.int .i64 a, .string (Bs b), .string (Bs c), Sl.v d, Sl.v f], .int .i64 (-1)] g [j] (fun v m => ∃ (n : Int), v = .int .i64 n ∧
R (.pointer (some (⟨h, 0, none⟩ : Addr))) m)))
theorem ref06_New.ok (a : Int) (b : Str) (c : Str) (d : Sl) (f : Sl) {R : Value → World → Prop} {w : World} (o : ref06_New.vc a b c d f R w) : Calls Tryz.prog 24 #[.agg #[.int .i64 a, .string (Bs b), .string (Bs c), Sl.v d, Sl.v f]] w (Ret R) := by
 refine go _ Tryz.func24 Tryz.ntmps24 o ?_
 refine gS <| gR <| nb fun i j => ?_
 refine gN <| ge <| tn <| gS <| gS <| gR ?_
 refine gBN 0 5 Tryz.underlying25 ti_25 <| gT1 ?_
 refine gC [0] Tryz.func49 fun _ k => gE fun l => gQ ?_
 refine g1 r_not <| ge <| tn ?_
 refine gi nT nF ?_ ?_
 ·refine gS <| gR <| gN <| ge <| tn <| gr <| tr ?_
  exact gz1
 ·refine gk <| tn <| gS <| gR <| gbu ti_74 Tryz.underlying74 pl_74 (OPs.of rfl) ?_
  refine nb fun g h => ?_
  refine gN <| ge <| tn <| gS <| gR ?_
  refine gM ?_
  refine gBN 1 5 Tryz.underlying25 ti_25 <| gT1 ?_
  refine gX 0 ?_
  refine gC [1] Tryz.func50 fun _ m => gE fun n => gQ <| ge <| tn <| gS <| gR ?_
  refine gM ?_
  refine gN <| ge <| tn <| gr ?_
  exact gz1
def ref06_D_Tree.vc (z : Addr) (ad : Int) (R : Value → World → Prop) (w : World) : Prop :=
∀ (w4 : World) (k : Nat), New w k w4 → Chg [] w w4 →
CallK Tryz.prog 57 #[.pointer (some z), .int .i64 ad] w4 [k] (fun v w7 => ∃ (aa : Option Addr), v = .pointer aa ∧
∃ aq : Addr, (aa = some aq) ∧
∃ (ar : Int) (au : Str) (av : Str) (ax : Sl) (ay : Sl), (Cells w7 (aq.add 2) [.int .i64 ar, .string (Bs au), .string (Bs av), Sl.v ax, Sl.v ay]) ∧
CallK Tryz.prog 58 #[.agg #[.int .i64 ar, .string (Bs au), .string (Bs av), Sl.v ax, Sl.v ay]] w7 [k] (fun v az => ∃ (ag : Int) (ah : Str) (ai : Str) (aj : Sl) (aA : Sl), v = .agg #[.int .i64 ag, .string (Bs ah), .string (Bs ai), Sl.v aj, Sl.v aA] ∧
∀ (ak : World) (ab : Nat), New az ab ak → Chg [] az ak →
∃ (aB : Int → Sl → World → Prop) (aM : Int → Sl → World → Nat),
aB 0 aA ak ∧
(∀ (b : Int) (l : Sl) (p : World), aB b l p →
∃ aC : Addr, (aa = some aC) ∧
∃ (al : Sl), (p.cell? (aC.add 7) = some (Sl.v al)) ∧
((b < (al.n : Int)) →
∀ (j : World), Chg [] p j →
∃ aD : Addr, (aa = some aD) ∧
∃ (am : Sl), (j.cell? (aD.add 7) = some (Sl.v am)) ∧
∃ aG : Addr, (((0 : Int) ≤ b ∧ b < (am.n : Int)) ∧ am.a = some aG) ∧
∃ (aH : Int), (j.cell? (aG.add (b.toNat * 1)) = some (.int .i64 aH)) ∧
∃ m : Int → Str → Str → Sl → Sl → World → Prop, (∀ c : Int, ∀ d : Str, ∀ f : Str, ∀ g : Sl, ∀ i : Sl, ∀ w' w'' : World, Ext w' w'' → m c d f g i w' → m c d f g i w'') ∧
(∀ w' : World, Ext j w' → Calls Tryz.prog 26 #[.pointer (some z), .int .i64 aH] w' (Ret fun v w'' => Ext w' w'' ∧ ∃ c : Int, ∃ d : Str, ∃ f : Str, ∃ g : Sl, ∃ i : Sl, v = .agg #[.int .i64 c, .string (Bs d), .string (Bs f), Sl.v g, Sl.v i] ∧ m c d f g i w'')) ∧
∀ (q : World) (r : Int) (t : Str) (u : Str) (x : Sl) (y : Sl) (o : Nat), Ext j q → m r t u x y q → j.heap.size ≤ o → Box q o 25 [.int .i64 r, .string (Bs t), .string (Bs u), Sl.v x, Sl.v y] → 
∀ (_ : Box q o 25 [.int .i64 r, .string (Bs t), .string (Bs u), Sl.v x, Sl.v y]),
RunK Tryz.prog (Builtin.append_ #[23, 23] 23 #[Sl.v l, Sl.v (Sl.mk (some ⟨o, 0, none⟩) 1 1)]) q [k, ab] (fun v aN => ∃ (an : Sl), v = Sl.v an ∧
(I64 (b + 1)) ∧
∀ (ao : World), Chg [ab] aN ao →
aB (b + 1) an ao ∧ aM (b + 1) an ao < aM b l p)) ∧
((¬ (b < (al.n : Int))) →
∀ (aI : World), Chg [k] p aI →
R (.agg #[.int .i64 ag, .string (Bs ah), .string (Bs ai), Sl.v aj, Sl.v l]) aI))))
theorem ref06_D_Tree.ok (z : Addr) (ad : Int) {R : Value → World → Prop} {w : World} (aO : ref06_D_Tree.vc z ad R w) : Calls Tryz.prog 26 #[.pointer (some z), .int .i64 ad] w (Ret R) := by
 refine go _ Tryz.func26 Tryz.ntmps26 aO ?_
 refine gS <| gR <| na ti_25 fun w4 k => ge <| tn <| gS <| gR ?_
 refine gM ?_
 refine gM <| gT1 ?_
 refine gC [0] Tryz.func57 fun _ w7 => gE fun aa => gQ ?_
 refine gN <| ge <| tn <| gS <| gR ?_
 refine gM ?_
 refine gnP fun aq => ?_
 refine gF 2 Tryz.underlying80 ti_25 ?_
 refine gE fun ar => gE fun au => gE fun av => gE fun ax => gE fun ay => gLN Tryz.underlying25 ti_25 ?_
 refine gC [0] Tryz.func58 fun _ az => gE fun ag => gE fun ah => gE fun ai => gE fun aj => gE fun aA => gQ ?_
 refine na ti_25 fun aX ab => ?_
 refine wn 0 0 ti_25 fun ak => ge <| tn <| gS <| gS <| gR ?_
 refine gN <| ge <| tn <| gb <| gT1 <| gE fun _ => gE fun mu => ?_
 refine l2 mu (fun b _ => [(7, .int .i64 b)]) [(0, _), (4, _), (5, _), (6, _)] (fun _ l => [(ab, 25, [.int .i64 ag, .string (Bs ah), .string (Bs ai), Sl.v aj, Sl.v l])]) [(k, _, _)] [0, 1] fun b l p _ => gS <| gS <| gR ?_
 refine gM ?_
 refine gM ?_
 refine gnP fun aC => ?_
 refine gF 7 Tryz.underlying80 ti_78 ?_
 refine gE fun al => gL tU78 ?_
 refine g1 (fun aP => r_len aP tU78) ?_
 refine g2 r_lss <| ge <| tn ?_
 refine gi dT dF ?_ ?_
 ·refine gk <| tn <| gS <| gb <| gD fun j => gT0 <| gE fun aD => gA fun aQ => gE fun am => gA fun aR => gE fun aG => gA fun aS => gE fun aH => gA fun aU => gE fun m => gA fun aJ => gA fun aV => ?_
  refine gW 0 12 [(10, ⟨Int × Str × Str × Sl × Sl, default, fun s => .agg #[.int .i64 s.1, .string (Bs s.2.1), .string (Bs s.2.2.1), Sl.v s.2.2.2.1, Sl.v s.2.2.2.2], fun s w => m s.1 s.2.1 s.2.2.1 s.2.2.2.1 s.2.2.2.2 w, fun s => aJ s.1 s.2.1 s.2.2.1 s.2.2.2.1 s.2.2.2.2⟩), (11, ⟨Int × Str × Str × Sl × Sl × Nat, default, fun s => (fun B => .slice (some ⟨B, 0, none⟩) 1 1) s.2.2.2.2.2, fun s w' => m s.1 s.2.1 s.2.2.1 s.2.2.2.1 s.2.2.2.2.1 w' ∧ j.heap.size ≤ s.2.2.2.2.2 ∧ Box w' s.2.2.2.2.2 25 [.int .i64 s.1, .string (Bs s.2.1), .string (Bs s.2.2.1), Sl.v s.2.2.2.1, Sl.v s.2.2.2.2.1], fun s w' w'' hE h => ⟨(aJ s.1 s.2.1 s.2.2.1 s.2.2.2.1 s.2.2.2.2.1 w' w'' hE h.1), h.2.1, h.2.2.ext hE⟩⟩)] ?_
  refine gF 4 Tryz.underlying25 ti_23 ?_
  refine gB 0 tU23 ?_
  refine gM ?_
  refine gM ?_
  refine gnx aQ ?_
  refine gF 7 Tryz.underlying80 ti_78 ?_
  refine gP aR <| gL tU78 ?_
  refine gM ?_
  refine gIx tU78 ti_3 aS ?_
  refine gP aU <| gL tU3 ?_
  refine yc rfl Tryz.func26 (fun w' hE _ => aV w' hE) (fun _ _ ⟨c, d, f, g, i, h1, h2⟩ => ⟨(c, d, f, g, i), h1, h2⟩) fun ⟨c, d, f, g, i⟩ => ?_
  refine yn (fun B => .slice (some ⟨B, 0, none⟩) 1 1) (cs := [.int .i64 c, .string (Bs d), .string (Bs f), Sl.v g, Sl.v i]) rfl (fun _ hA _ => r_buildSlice ((OPs.of rfl : OPs _ true _ _).map hA rfl) tU23 ti_25 rfl rfl (by kernel_rfl)) (fun _ _ B _ hF hA' h1 h2 => ⟨(c, d, f, g, i, B), rfl, (aJ c d f g i _ _ hA' (hF.1 (by kernel_rfl))), h1, h2⟩) fun ⟨r, t, u, x, y, o⟩ => ?_
  refine eB (B := o) (T := 25) (cs := [.int .i64 r, .string (Bs t), .string (Bs u), Sl.v x, Sl.v y]) (fun _ hF => ⟨hF.1.2.1, hF.1.2.2⟩) (fun v w' hE hF => v w' r t u x y o hE hF.1.1 hF.1.2.1 hF.1.2.2) fun q => ?_
  refine gO 12 ?_
  refine gX 0 ?_
  refine gR2 [2, 1] r_append fun _ aN => gE fun an => gQ <| geO ?_
  refine gW 13 1 [] ?_
  refine gF 4 Tryz.underlying25 ti_23 <| geT fun aY => ?_
  refine gO 14 ?_
  refine wo 1 ti_23 fun ao => geO ?_
  refine gZ <| bn <| tn <| gR ?_
  refine gM ?_
  refine g2s r_addI ?_
  refine gN <| ge <| gT0 ?_
  exact k2 [1, 0]
 ·refine gx <| te <| te <| bh <| tn <| gS <| gR <| gBN 0 5 Tryz.underlying25 ti_25 ?_
  refine wo 1 ti_25 fun aI => ge <| tn <| gr <| gT0 ?_
  exact gzB 1 Tryz.underlying25 ti_25
def ref06_D_add.vc (d : Addr) (ad : Int) (af : Str) (ah : Str) (ai : Sl) (y : Sl) (x : Int) (R : Value → World → Prop) (w : World) : Prop :=
∀ (w5 : World) (o : Nat), New w o w5 → Chg [] w w5 →
∃ (f : Sl), (w5.cell? (d.add 0) = some (Sl.v f)) ∧
∀ (aj : World), Chg [] w5 aj →
∃ (ay : Sl), (aj.cell? (d.add 0) = some (Sl.v ay)) ∧
∃ al : Int → Str → Str → Sl → Sl → World → Prop, (∀ g : Int, ∀ j : Str, ∀ k : Str, ∀ l : Sl, ∀ m : Sl, ∀ w' w'' : World, Ext w' w'' → al g j k l m w' → al g j k l m w'') ∧
(∀ w' : World, Ext aj w' → Calls Tryz.prog 58 #[.agg #[.int .i64 ad, .string (Bs af), .string (Bs ah), Sl.v ai, Sl.v y]] w' (Ret fun v w'' => Ext w' w'' ∧ ∃ g : Int, ∃ j : Str, ∃ k : Str, ∃ l : Sl, ∃ m : Sl, v = .agg #[.int .i64 g, .string (Bs j), .string (Bs k), Sl.v l, Sl.v m] ∧ al g j k l m w'')) ∧
∀ (am : World) (g : Int) (j : Str) (k : Str) (l : Sl) (m : Sl) (q : Nat), Ext aj am → al g j k l m am → aj.heap.size ≤ q → Box am q 80 [.int .i64 (f.n : Int), .int .i64 x, .int .i64 g, .string (Bs j), .string (Bs k), Sl.v l, Sl.v m, Sl.v Sl.nil] → 
∀ (_ : Box am q 80 [.int .i64 (f.n : Int), .int .i64 x, .int .i64 g, .string (Bs j), .string (Bs k), Sl.v l, Sl.v m, Sl.v Sl.nil]),
RunK Tryz.prog (Builtin.append_ #[72, 72] 72 #[Sl.v ay, Sl.v (Sl.mk (some ⟨q, 0, none⟩) 1 1)]) am [o] (fun v aO => ∃ (ap : Sl), v = Sl.v ap ∧
(aO.cell? (d.add 0) = some (Sl.v ay)) ∧
∀ (az : World), Chg [] aO az →
∀ (aA : World), Chg [] az aA →
∃ (aB aP : Nat) (a0 : TypeId) (aQ : List Value), (d.add 0) = ⟨aB, aP, none⟩ ∧ Box aA aB a0 aQ ∧ aP + 1 ≤ aQ.length ∧ (∀ b ∈ [o], b ≠ aB) ∧
(∀ aN : World, Chg [aB] aA aN → Box aN aB a0 (putAt aQ aP [Sl.v ap]) →
∃ (a1 : Int → World → Prop) (bo : Int → World → Nat),
a1 0 aN ∧
(∀ (p : Int) (aC : World), a1 p aC →
((p < (y.n : Int)) →
((0 : Int) ≤ p ∧ p < (y.n : Int)) ∧ ∃ a2 : Addr, y.a = some a2 ∧
∃ (a3 : Int) (a4 : Str) (a5 : Str) (a6 : Sl) (a7 : Sl), (Cells aC (a2.add (p.toNat * 5)) [.int .i64 a3, .string (Bs a4), .string (Bs a5), Sl.v a6, Sl.v a7]) ∧
CallK Tryz.prog 50 #[.pointer (some d), .agg #[.int .i64 a3, .string (Bs a4), .string (Bs a5), Sl.v a6, Sl.v a7], .int .i64 (f.n : Int)] aC [o] (fun v a8 => ∃ (z : Int), v = .int .i64 z ∧
∀ (ab : World), Chg [] a8 ab →
∃ (an : Sl), (ab.cell? (d.add 0) = some (Sl.v an)) ∧
∃ (ao : Sl), (ab.cell? (d.add 0) = some (Sl.v ao)) ∧
∃ ak : Addr, (((0 : Int) ≤ (f.n : Int) ∧ (f.n : Int) < (ao.n : Int)) ∧ ao.a = some ak) ∧
∃ (aD : Sl), (ab.cell? ((ak.add ((f.n : Int).toNat * 8)).add 7) = some (Sl.v aD)) ∧
∀ (aq : World) (r : Nat), Ext ab aq → ab.heap.size ≤ r → Box aq r 3 [.int .i64 z] → 
∀ (_ : Box aq r 3 [.int .i64 z]),
RunK Tryz.prog (Builtin.append_ #[78, 78] 78 #[Sl.v aD, Sl.v (Sl.mk (some ⟨r, 0, none⟩) 1 1)]) aq [o] (fun v aG => ∃ (ar : Sl), v = Sl.v ar ∧
(aG.cell? (d.add 0) = some (Sl.v an)) ∧
(aG.cell? (d.add 0) = some (Sl.v ao)) ∧
(aG.cell? ((ak.add ((f.n : Int).toNat * 8)).add 7) = some (Sl.v aD)) ∧
∀ (aH : World), Chg [] aG aH →
∃ au : Addr, (((0 : Int) ≤ (f.n : Int) ∧ (f.n : Int) < (an.n : Int)) ∧ an.a = some au) ∧
∀ (aI : World), Chg [] aH aI →
∃ (aJ aR : Nat) (a9 : TypeId) (aS : List Value), ((au.add ((f.n : Int).toNat * 8)).add 7) = ⟨aJ, aR, none⟩ ∧ Box aI aJ a9 aS ∧ aR + 1 ≤ aS.length ∧ (∀ b ∈ [o], b ≠ aJ) ∧
(∀ aK : World, Chg [aJ] aI aK → Box aK aJ a9 (putAt aS aR [Sl.v ar]) →
(I64 (p + 1)) ∧
a1 (p + 1) aK ∧ bo (p + 1) aK < bo p aC)))) ∧
((¬ (p < (y.n : Int))) →
R (.int .i64 (f.n : Int)) aC))))
theorem ref06_D_add.ok (d : Addr) (ad : Int) (af : Str) (ah : Str) (ai : Sl) (y : Sl) (x : Int) {R : Value → World → Prop} {w : World} (bV : ref06_D_add.vc d ad af ah ai y x R w) : Calls Tryz.prog 50 #[.pointer (some d), .agg #[.int .i64 ad, .string (Bs af), .string (Bs ah), Sl.v ai, Sl.v y], .int .i64 x] w (Ret R) := by
 refine go _ Tryz.func50 Tryz.ntmps50 bV ?_
 refine gS <| gR <| nb fun w5 o => ?_
 refine gN <| ge <| tn <| gS <| gR ?_
 refine gM ?_
 refine g1 r_nilCheck ?_
 refine gF 0 Tryz.underlying74 ti_72 <| gT1 ?_
 refine gE fun f => gL tU72 ?_
 refine g1 (fun ba => r_len ba tU72) ?_
 refine gN <| ge <| tn <| gS ?_
 intro d6 s9 bX
 have aa := s9.ag
 have bY := s9.bx 0 rfl
 let aU : List (List Nat) := [[], [], [1], [1, 2], [1, 2, 3], [], [], [], [7], [5, 6, 7, 8], [5, 6, 7, 8, 9], [1, 2, 3, 4, 5, 6, 7, 8, 9, 10], [0, 1, 2, 3, 4, 5, 6, 7, 8, 9, 10, 11], [0, 1, 2, 3, 4, 5, 6, 7, 8, 9, 10, 11, 12], [0, 1, 2, 3, 4, 5, 6, 7, 8, 9, 10, 11, 12, 13]]
 refine draw' (by kernel_rfl) fun aj bq => ?_
 have bb := bY.ext bq
 have bZ : Chg [] w5 aj := bq
 have b0 := bX aj    bZ
 obtain ⟨ay, bt, b1⟩ := b0
 refine startF (D := aU) (Fs := [0, 1, 2, 3, 4, 5, 6, 7]) (Ef := [(0, fun v _ => v = .pointer (some d)), (1, fun v _ => v = .pointer (some d)), (2, fun v _ => v = .pointer (some d)), (3, fun v _ => v = .pointer (some (d.add 0))), (4, fun v _ => v = Sl.v ay), (5, fun v _ => v = .int .i64 (f.n : Int)), (6, fun v _ => v = .int .i64 x), (7, fun v _ => v = .agg #[.int .i64 ad, .string (Bs af), .string (Bs ah), Sl.v ai, Sl.v y])]) (by kernel_rfl) ?_
 obtain ⟨al, aV, b2, b3⟩ := b1
 refine parF (D := aU) (S := [8, 9, 10]) (F := []) (KE := [8, 9, 10]) (E := [(8, fun v w' => ∃ g : Int, ∃ j : Str, ∃ k : Str, ∃ l : Sl, ∃ m : Sl, al g j k l m w' ∧ v = .agg #[.int .i64 g, .string (Bs j), .string (Bs k), Sl.v l, Sl.v m]), (9, fun v w' => ∃ g : Int, ∃ j : Str, ∃ k : Str, ∃ l : Sl, ∃ m : Sl, al g j k l m w' ∧ v = .agg #[.int .i64 (f.n : Int), .int .i64 x, .int .i64 g, .string (Bs j), .string (Bs k), Sl.v l, Sl.v m, Sl.v Sl.nil]), (10, fun v w' => ∃ g : Int, ∃ j : Str, ∃ k : Str, ∃ l : Sl, ∃ m : Sl, ∃ q : Nat, al g j k l m w' ∧ aj.heap.size ≤ q ∧ Box w' q 80 [.int .i64 (f.n : Int), .int .i64 x, .int .i64 g, .string (Bs j), .string (Bs k), Sl.v l, Sl.v m, Sl.v Sl.nil] ∧ v = Sl.v (Sl.mk (some ⟨q, 0, none⟩) 1 1))]) aa rfl (by kernel_rfl) ⟨fun _ _ _ hE ⟨g, j, k, l, m, h0_, e⟩ => ⟨g, j, k, l, m, (aV g j k l m _ _ hE h0_), e⟩, fun _ _ _ hE ⟨g, j, k, l, m, h0_, e⟩ => ⟨g, j, k, l, m, (aV g j k l m _ _ hE h0_), e⟩, fun _ _ _ hE ⟨g, j, k, l, m, q, h0_, h1_, h2_, e⟩ => ⟨g, j, k, l, m, q, (aV g j k l m _ _ hE h0_), h1_, (h2_.ext hE), e⟩, fun _ _ _ _ h => h, fun _ _ _ _ h => h, fun _ _ _ _ h => h, fun _ _ _ _ h => h, fun _ _ _ _ h => h, fun _ _ _ _ h => h, fun _ _ _ _ h => h, fun _ _ _ _ h => h, trivial⟩ ⟨?_, ?_, ?_, ?_, ?_, ?_, ?_, ?_, ?_, ?_, ?_, trivial⟩ ?_
 ·intro a w hT
  have hAp := hT.ag aa [] trivial (by kernel_rfl)
  have hAp := hAp.add (t := 22) (v := .agg #[.int .i64 ad, .string (Bs af), .string (Bs ah), Sl.v ai, Sl.v y]) (hT.vals 7 rfl 22 rfl)
  exact opk_callX hAp rfl (r_call (args := #[.agg #[.int .i64 ad, .string (Bs af), .string (Bs ah), Sl.v ai, Sl.v y]]) Tryz.func58 (by decide) rfl (map_arr (ml_cons (hAp.get rfl) ml_nil)) rfl) (b2 w hT.chg) fun _ _ _ _ e ⟨hE, g, j, k, l, m, he, hV⟩ => ⟨_, e, hE, fun _ => ⟨g, j, k, l, m, hV, he⟩⟩
 ·intro a w hT
  have hAp := hT.ag aa [] trivial (by kernel_rfl)
  have hAp := hAp.add (t := 20) (v := .int .i64 (f.n : Int)) (hT.vals 5 rfl 20 rfl)
  have hAp := hAp.add (t := 21) (v := .int .i64 x) (hT.vals 6 rfl 21 rfl)
  obtain ⟨g, j, k, l, m, b4, b5⟩ := hT.vals 8 rfl 23 rfl
  have hAp := hAp.add b5
  exact opk_val hAp rfl (r_build (vs := #[(0, .int .i64 (f.n : Int)), (1, .int .i64 x), (2, .agg #[.int .i64 g, .string (Bs j), .string (Bs k), Sl.v l, Sl.v m])]) (cells := #[.int .i64 (f.n : Int), .int .i64 x, .int .i64 g, .string (Bs j), .string (Bs k), Sl.v l, Sl.v m, Sl.v Sl.nil]) (map_arr2 (ml2_cons (hAp.get rfl) (ml2_cons (hAp.get rfl) (ml2_cons (hAp.get rfl) (ml2_nil))))) ti_80 Tryz.underlying80 pl_80 (by kernel_rfl)) fun _ _ e => ⟨_, e, Chg.refl _ _, fun _ => ⟨g, j, k, l, m, b4, rfl⟩⟩
 ·intro a w hT
  have hAp := hT.ag aa [] trivial (by kernel_rfl)
  obtain ⟨g, j, k, l, m, b6, b7⟩ := hT.vals 9 rfl 24 rfl
  have hAp := hAp.add b7
  exact opk_new (fun B => .slice (some ⟨B, 0, none⟩) 1 1) hAp rfl (r_buildSlice (vs := #[(0, .agg #[.int .i64 (f.n : Int), .int .i64 x, .int .i64 g, .string (Bs j), .string (Bs k), Sl.v l, Sl.v m, Sl.v Sl.nil])]) (cs := [.int .i64 (f.n : Int), .int .i64 x, .int .i64 g, .string (Bs j), .string (Bs k), Sl.v l, Sl.v m, Sl.v Sl.nil]) (map_arr2 (ml2_cons (hAp.get rfl) (ml2_nil))) tU72 ti_80 rfl rfl (by kernel_rfl)) fun _ d7 q bu b8 b9 _ e => ⟨_, e, bu, fun _ => ⟨g, j, k, l, m, q, (aV g j k l m _ _ bu b6), Nat.le_trans hT.chg.size b8.ge, b9, rfl⟩⟩
 ·intro a w hT
  have hAp := hT.ag aa [(0, .pointer (some d))] ⟨rfl, trivial⟩ (by kernel_rfl)
  exact ovr hAp rfl (r_move (hAp.get rfl)) fun _ => Eq.refl _
 ·intro a w hT
  have hAp := hT.ag aa [(0, .pointer (some d))] ⟨rfl, trivial⟩ (by kernel_rfl)
  exact ovr hAp rfl (r_move (hAp.get rfl)) fun _ => Eq.refl _
 ·intro a w hT
  have hAp := hT.ag aa [] trivial (by kernel_rfl)
  have hAp := hAp.add (t := 16) (v := .pointer (some d)) (hT.vals 1 rfl 16 rfl)
  exact ovr hAp rfl (r_nilCheck (hAp.get rfl)) fun _ => Eq.refl _
 ·intro a w hT
  have hAp := hT.ag aa [] trivial (by kernel_rfl)
  have hAp := hAp.add (t := 17) (v := .pointer (some d)) (hT.vals 2 rfl 17 rfl)
  exact ovr hAp rfl (r_fieldAddr (hAp.get rfl) Tryz.underlying74 rfl ti_72 (by decide)) fun _ => Eq.refl _
 ·intro a w hT
  have hAp := hT.ag aa [] trivial (by kernel_rfl)
  have hAp := hAp.add (t := 18) (v := .pointer (some (d.add 0))) (hT.vals 3 rfl 18 rfl)
  exact ovr hAp rfl (r_load1 tU72 rfl (hAp.get rfl) (Ext.cell hT.chg bt)) fun _ => Eq.refl _
 ·intro a w hT
  have hAp := hT.ag aa [(7, .int .i64 (f.n : Int))] ⟨rfl, trivial⟩ (by kernel_rfl)
  exact ovr hAp rfl (r_move (hAp.get rfl)) fun _ => Eq.refl _
 ·intro a w hT
  have hAp := hT.ag aa [(2, .int .i64 x)] ⟨rfl, trivial⟩ (by kernel_rfl)
  exact ovr hAp rfl (r_move (hAp.get rfl)) fun _ => Eq.refl _
 ·intro a w hT
  have hAp := hT.ag aa [(4, pB o 0)] ⟨rfl, trivial⟩ (by kernel_rfl)
  exact ovr hAp rfl (r_loadN (cs := [.int .i64 ad, .string (Bs af), .string (Bs ah), Sl.v ai, Sl.v y]) Tryz.underlying25 rfl ti_25 (hAp.get rfl) ((bb.ext hT.chg).part 0 _ rfl)) fun _ => Eq.refl _
 ·intro d8 am aX ca cb
  have cc := ca [(0, .pointer (some d)), (2, .int .i64 x), (4, pB o 0), (7, .int .i64 (f.n : Int))] ⟨rfl, rfl, rfl, rfl, trivial⟩ (by kernel_rfl)
  obtain ⟨g, j, k, l, m, q, cd, bv, bz, cf⟩ := cb 10 rfl 25 rfl
  have cg := cc.add cf
  have ch := bb.ext aX
  have d9 : Chg [] aj am := aX
  have ci := Ext.cell aX bt
  have cj := b3 am g j k l m q aX cd bv bz
  have fa : o ≠ q := Nat.ne_of_lt (Nat.lt_of_lt_of_le bb.lt bv)
  refine PRF_drop (X := [5, 6, 7]) (Fs' := [0, 1, 2, 3, 4]) cg (by kernel_rfl) fun fb ck fc => ?_
  have av := ck [(0, .pointer (some d)), (4, pB o 0), (7, .int .i64 (f.n : Int)), (25, Sl.v (Sl.mk (some ⟨q, 0, none⟩) 1 1))] ⟨rfl, rfl, rfl, rfl, trivial⟩ (by kernel_rfl)
  refine oneF (c := 11) av rfl (by kernel_rfl) (constF ⟨fun _ _ _ h => h, fun _ _ _ h => h, fun _ _ _ h => h, fun _ _ _ h => h, fun _ _ _ h => h, trivial⟩) ⟨?_, ?_, ?_, ?_, ?_, trivial⟩ ?_
  ·intro a hT
   have hAp := hT.ag av [(0, .pointer (some d))] ⟨rfl, trivial⟩ (by kernel_rfl)
   exact opk_val hAp rfl (r_move (hAp.get rfl)) fun _ _ e => ⟨_, e, rfl, fun _ => Eq.refl _⟩
  ·intro a hT
   have hAp := hT.ag av [(0, .pointer (some d))] ⟨rfl, trivial⟩ (by kernel_rfl)
   exact opk_val hAp rfl (r_move (hAp.get rfl)) fun _ _ e => ⟨_, e, rfl, fun _ => Eq.refl _⟩
  ·intro a hT
   have hAp := hT.ag av [] trivial (by kernel_rfl)
   have hAp := hAp.add (t := 16) (v := .pointer (some d)) (hT.vals 1 rfl 16 rfl)
   exact opk_val hAp rfl (r_nilCheck (hAp.get rfl)) fun _ _ e => ⟨_, e, rfl, fun _ => Eq.refl _⟩
  ·intro a hT
   have hAp := hT.ag av [] trivial (by kernel_rfl)
   have hAp := hAp.add (t := 17) (v := .pointer (some d)) (hT.vals 2 rfl 17 rfl)
   exact opk_val hAp rfl (r_fieldAddr (hAp.get rfl) Tryz.underlying74 rfl ti_72 (by decide)) fun _ _ e => ⟨_, e, rfl, fun _ => Eq.refl _⟩
  ·intro a hT
   have hAp := hT.ag av [] trivial (by kernel_rfl)
   have hAp := hAp.add (t := 18) (v := .pointer (some (d.add 0))) (hT.vals 3 rfl 18 rfl)
   exact opk_val hAp rfl (r_load1 tU72 rfl (hAp.get rfl) (Ext.cell hT.chg ci)) fun _ _ e => ⟨_, e, rfl, fun _ => Eq.refl _⟩
  ·intro cl hT
   have cm := hT.ag av [(0, .pointer (some d)), (4, pB o 0), (7, .int .i64 (f.n : Int)), (25, Sl.v (Sl.mk (some ⟨q, 0, none⟩) 1 1))] ⟨rfl, rfl, rfl, rfl, trivial⟩ (by kernel_rfl)
   have cn : cl.tmps.getD 19 undef = Sl.v ay := hT.vals 4 rfl 19 rfl
   have bd := cm.add cn
   have co := cj bz
   refine (opk_run bd rfl (fun _ _ hr => r_append (bd.get rfl) (bd.get rfl) hr) co fun fd ff aO cp cq cr fg ct => ?_)
   refine ⟨_, cq, ?_⟩
   obtain ⟨ap, rfl, cu⟩ := ct
   have cv := ch.kept cr (.head _)
   obtain ⟨fh, cx⟩ := cu
   refine PRF_drop (X := [1, 2, 3, 4]) (Fs' := [0]) cp (by kernel_rfl) fun fi cy fj => ?_
   have bA := cy [(0, .pointer (some d)), (4, pB o 0), (7, .int .i64 (f.n : Int)), (26, Sl.v ap)] ⟨rfl, rfl, rfl, rfl, trivial⟩ (by kernel_rfl)
   refine joinF bA (by kernel_rfl) ⟨fun _ _ _ _ h => h, trivial⟩ ⟨?_, trivial⟩ ?_
   ·intro a w hT
    have hAp := hT.ag bA [(0, .pointer (some d))] ⟨rfl, trivial⟩ (by kernel_rfl)
    exact ovr hAp rfl (r_move (hAp.get rfl)) fun _ => Eq.refl _
   ·intro cz az bB cA cB
    have cC := cA [(0, .pointer (some d)), (4, pB o 0), (7, .int .i64 (f.n : Int)), (26, Sl.v ap)] ⟨rfl, rfl, rfl, rfl, trivial⟩ (by kernel_rfl)
    have cD : cz.tmps.getD 15 undef = .pointer (some d) := cB 0 rfl 15 rfl
    have bf := cC.add cD
    have cF := cv.ext bB
    have cG : Chg [] aO az := bB
    have cH := cx az    cG
    refine par (D := aU) (S := [12, 13]) (F := []) (V := VL [(12, fun v _ => v = .pointer (some d)), (13, fun v _ => v = .pointer (some (d.add 0)))]) bf (by kernel_rfl) ⟨fun _ _ _ _ h => h, fun _ _ _ _ h => h, trivial⟩ ⟨?_, ?_, trivial⟩ ?_
    ·intro a w hT
     have hAp := hT.ag bf [(15, .pointer (some d))] ⟨rfl, trivial⟩ (by kernel_rfl)
     exact ovr hAp rfl (r_nilCheck (hAp.get rfl)) fun _ => Eq.refl _
    ·intro a w hT
     have hAp := hT.ag bf [] trivial (by kernel_rfl)
     have hAp := hAp.add (t := 27) (v := .pointer (some d)) (hT.vals 12 rfl 27 rfl)
     exact ovr hAp rfl (r_fieldAddr (hAp.get rfl) Tryz.underlying74 rfl ti_72 (by decide)) fun _ => Eq.refl _
    ·intro cI aA bC cJ cK
     have cL := cJ [(0, .pointer (some d)), (4, pB o 0), (7, .int .i64 (f.n : Int)), (26, Sl.v ap)] ⟨rfl, rfl, rfl, rfl, trivial⟩ (by kernel_rfl)
     have cM : cI.tmps.getD 28 undef = .pointer (some (d.add 0)) := cK 13 rfl 28 rfl
     have bg := cL.add cM
     have cN := cF.ext bC
     have cO : Chg [] az aA := bC
     have cP := cH aA    cO
     obtain ⟨aB, aP, a0, aQ, cQ, bD, cR, cS, cT⟩ := cP
     refine one (D := aU) (i := 14) rfl (by kernel_rfl) (opk_store bg bD (r_store (vs := [Sl.v ap]) (((bg.get rfl)).trans (congrArg (fun a => Value.pointer (some a)) cQ)) (bg.get rfl) rfl ti_72 bD (Nat.ble_eq_true_of_le cR) (ones_all _ rfl)) fun fk aN bF cU cX => ?_)
     have cY := cN.keep bF (by have := cS o (by simp); simpa using this)
     have cZ := cT aN bF cU
     refine PR_end (by kernel_rfl) ?_
     have c0 := cX.kp [(0, .pointer (some d)), (4, pB o 0), (7, .int .i64 (f.n : Int))] rfl
     refine gK (bs := [(o, 25, [.int .i64 ad, .string (Bs af), .string (Bs ah), Sl.v ai, Sl.v y])]) (N := []) c0 (Chg.refl [] _) ⟨cY, trivial⟩ (by simp) trivial (by simp) cZ ?_
     refine tn <| gS <| gS <| gR <| gN <| ge <| tn <| gb <| gE fun _ => gE fun mu => ?_
     refine l1 mu (fun p => [(8, .int .i64 p)]) [(0, _), (4, _), (7, _)] (fun _ => []) [(o, _, _)] [0] fun p aC _ => gS <| gS <| gR ?_
     refine gM ?_
     refine gF 4 Tryz.underlying25 ti_23 ?_
     refine gB 0 tU23 ?_
     refine g1 (fun ba => r_len ba tU23) ?_
     refine g2 r_lss <| ge <| tn ?_
     refine gi dT dF ?_ ?_
     ·refine gk <| tn <| gS <| gb <| gS <| gR <| gM ?_
      refine gF 4 Tryz.underlying25 ti_23 ?_
      refine gB 0 tU23 ?_
      refine gM ?_
      refine gI1 tU23 ti_25 fun a2 => ?_
      refine gE fun a3 => gE fun a4 => gE fun a5 => gE fun a6 => gE fun a7 => gLN Tryz.underlying25 ti_25 ?_
      refine gM ?_
      refine gC [0] Tryz.func50 fun _ a8 => gE fun z => gQ ?_
      refine gN <| ge <| tn ?_
      intro fl bG c1
      have s := bG.ag
      have c2 := bG.bx 0 rfl
      let aY : List (List Nat) := [[], [0], [0, 1], [0, 1, 2], [], [], [5], [5, 6], [5, 6, 7], [], [5, 6, 7, 8, 9], [5, 6, 7, 8, 9, 10], [5, 6, 7, 8, 9, 10, 11], [], [13], [5, 6, 7, 8, 9, 10, 11, 12, 13, 14], [0, 1, 2, 3, 4, 5, 6, 7, 8, 9, 10, 11, 12, 13, 14, 15], [0, 1, 2, 3, 4, 5, 6, 7, 8, 9, 10, 11, 12, 13, 14, 15, 16], [0, 1, 2, 3, 4, 5, 6, 7, 8, 9, 10, 11, 12, 13, 14, 15, 16, 17]]
      refine draw' (by kernel_rfl) fun ab bH => ?_
      have bI := c2.ext bH
      have c3 : Chg [] a8 ab := bH
      have c4 := c1 ab    c3
      obtain ⟨an, bJ, c5⟩ := c4
      obtain ⟨ao, bK, c6⟩ := c5
      obtain ⟨ak, aZ, c7⟩ := c6
      obtain ⟨aD, bL, c8⟩ := c7
      refine startF (D := aY) (Fs := [0, 1, 2, 3, 4, 5, 6, 7, 8, 9, 10, 11, 12, 13]) (Ef := [(0, fun v _ => v = .pointer (some d)), (1, fun v _ => v = .pointer (some d)), (2, fun v _ => v = .pointer (some (d.add 0))), (3, fun v _ => v = Sl.v an), (4, fun v _ => v = .int .i64 (f.n : Int)), (5, fun v _ => v = .pointer (some d)), (6, fun v _ => v = .pointer (some d)), (7, fun v _ => v = .pointer (some (d.add 0))), (8, fun v _ => v = Sl.v ao), (9, fun v _ => v = .int .i64 (f.n : Int)), (10, fun v _ => v = .pointer (some (ak.add ((f.n : Int).toNat * 8)))), (11, fun v _ => v = .pointer (some ((ak.add ((f.n : Int).toNat * 8)).add 7))), (12, fun v _ => v = Sl.v aD), (13, fun v _ => v = .int .i64 z)]) (by kernel_rfl) ?_
      refine parF (D := aY) (S := [14]) (F := []) (KE := [14]) (E := [(14, fun v w' => ∃ r : Nat, ab.heap.size ≤ r ∧ Box w' r 3 [.int .i64 z] ∧ v = Sl.v (Sl.mk (some ⟨r, 0, none⟩) 1 1))]) s rfl (by kernel_rfl) ⟨fun _ _ _ hE ⟨r, h0_, h1_, e⟩ => ⟨r, h0_, (h1_.ext hE), e⟩, fun _ _ _ _ h => h, fun _ _ _ _ h => h, fun _ _ _ _ h => h, fun _ _ _ _ h => h, fun _ _ _ _ h => h, fun _ _ _ _ h => h, fun _ _ _ _ h => h, fun _ _ _ _ h => h, fun _ _ _ _ h => h, fun _ _ _ _ h => h, fun _ _ _ _ h => h, fun _ _ _ _ h => h, fun _ _ _ _ h => h, fun _ _ _ _ h => h, trivial⟩ ⟨?_, ?_, ?_, ?_, ?_, ?_, ?_, ?_, ?_, ?_, ?_, ?_, ?_, ?_, ?_, trivial⟩ ?_
      ·intro a w hT
       have hAp := hT.ag s [] trivial (by kernel_rfl)
       have hAp := hAp.add (t := 57) (v := .int .i64 z) (hT.vals 13 rfl 57 rfl)
       exact opk_new (fun B => .slice (some ⟨B, 0, none⟩) 1 1) hAp rfl (r_buildSlice (vs := #[(0, .int .i64 z)]) (cs := [.int .i64 z]) (map_arr2 (ml2_cons (hAp.get rfl) (ml2_nil))) tU78 ti_3 rfl rfl (by kernel_rfl)) fun _ fm r c9 da db _ e => ⟨_, e, c9, fun _ => ⟨r, Nat.le_trans hT.chg.size da.ge, db, rfl⟩⟩
      ·intro a w hT
       have hAp := hT.ag s [(0, .pointer (some d))] ⟨rfl, trivial⟩ (by kernel_rfl)
       exact ovr hAp rfl (r_move (hAp.get rfl)) fun _ => Eq.refl _
      ·intro a w hT
       have hAp := hT.ag s [] trivial (by kernel_rfl)
       have hAp := hAp.add (t := 44) (v := .pointer (some d)) (hT.vals 0 rfl 44 rfl)
       exact ovr hAp rfl (r_nilCheck (hAp.get rfl)) fun _ => Eq.refl _
      ·intro a w hT
       have hAp := hT.ag s [] trivial (by kernel_rfl)
       have hAp := hAp.add (t := 45) (v := .pointer (some d)) (hT.vals 1 rfl 45 rfl)
       exact ovr hAp rfl (r_fieldAddr (hAp.get rfl) Tryz.underlying74 rfl ti_72 (by decide)) fun _ => Eq.refl _
      ·intro a w hT
       have hAp := hT.ag s [] trivial (by kernel_rfl)
       have hAp := hAp.add (t := 46) (v := .pointer (some (d.add 0))) (hT.vals 2 rfl 46 rfl)
       exact ovr hAp rfl (r_load1 tU72 rfl (hAp.get rfl) (Ext.cell hT.chg bJ)) fun _ => Eq.refl _
      ·intro a w hT
       have hAp := hT.ag s [(7, .int .i64 (f.n : Int))] ⟨rfl, trivial⟩ (by kernel_rfl)
       exact ovr hAp rfl (r_move (hAp.get rfl)) fun _ => Eq.refl _
      ·intro a w hT
       have hAp := hT.ag s [(0, .pointer (some d))] ⟨rfl, trivial⟩ (by kernel_rfl)
       exact ovr hAp rfl (r_move (hAp.get rfl)) fun _ => Eq.refl _
      ·intro a w hT
       have hAp := hT.ag s [] trivial (by kernel_rfl)
       have hAp := hAp.add (t := 49) (v := .pointer (some d)) (hT.vals 5 rfl 49 rfl)
       exact ovr hAp rfl (r_nilCheck (hAp.get rfl)) fun _ => Eq.refl _
      ·intro a w hT
       have hAp := hT.ag s [] trivial (by kernel_rfl)
       have hAp := hAp.add (t := 50) (v := .pointer (some d)) (hT.vals 6 rfl 50 rfl)
       exact ovr hAp rfl (r_fieldAddr (hAp.get rfl) Tryz.underlying74 rfl ti_72 (by decide)) fun _ => Eq.refl _
      ·intro a w hT
       have hAp := hT.ag s [] trivial (by kernel_rfl)
       have hAp := hAp.add (t := 51) (v := .pointer (some (d.add 0))) (hT.vals 7 rfl 51 rfl)
       exact ovr hAp rfl (r_load1 tU72 rfl (hAp.get rfl) (Ext.cell hT.chg bK)) fun _ => Eq.refl _
      ·intro a w hT
       have hAp := hT.ag s [(7, .int .i64 (f.n : Int))] ⟨rfl, trivial⟩ (by kernel_rfl)
       exact ovr hAp rfl (r_move (hAp.get rfl)) fun _ => Eq.refl _
      ·intro a w hT
       have hAp := hT.ag s [] trivial (by kernel_rfl)
       have hAp := hAp.add (t := 52) (v := Sl.v ao) (hT.vals 8 rfl 52 rfl)
       have hAp := hAp.add (t := 53) (v := .int .i64 (f.n : Int)) (hT.vals 9 rfl 53 rfl)
       exact ovr hAp rfl (r_indexAddr (hAp.get rfl) (hAp.get rfl) tU72 ti_80 aZ.1 aZ.2) fun _ => Eq.refl _
      ·intro a w hT
       have hAp := hT.ag s [] trivial (by kernel_rfl)
       have hAp := hAp.add (t := 54) (v := .pointer (some (ak.add ((f.n : Int).toNat * 8)))) (hT.vals 10 rfl 54 rfl)
       exact ovr hAp rfl (r_fieldAddr (hAp.get rfl) Tryz.underlying80 rfl ti_78 (by decide)) fun _ => Eq.refl _
      ·intro a w hT
       have hAp := hT.ag s [] trivial (by kernel_rfl)
       have hAp := hAp.add (t := 55) (v := .pointer (some ((ak.add ((f.n : Int).toNat * 8)).add 7))) (hT.vals 11 rfl 55 rfl)
       exact ovr hAp rfl (r_load1 tU78 rfl (hAp.get rfl) (Ext.cell hT.chg bL)) fun _ => Eq.refl _
      ·intro a w hT
       have hAp := hT.ag s [(9, .int .i64 z)] ⟨rfl, trivial⟩ (by kernel_rfl)
       exact ovr hAp rfl (r_move (hAp.get rfl)) fun _ => Eq.refl _
      ·intro fn aq aL dc dd
       have df := dc [(0, .pointer (some d)), (4, pB o 0), (7, .int .i64 (f.n : Int)), (8, .int .i64 p), (9, .int .i64 z)] ⟨rfl, rfl, rfl, rfl, rfl, trivial⟩ (by kernel_rfl)
       obtain ⟨r, bM, bN, dg⟩ := dd 14 rfl 58 rfl
       have u := df.add dg
       have dh := bI.ext aL
       have fo : Chg [] ab aq := aL
       have di := Ext.cell aL bJ
       have dj := Ext.cell aL bK
       have dk := Ext.cell aL bL
       have dl := c8 aq r aL bM bN
       have fp : o ≠ r := Nat.ne_of_lt (Nat.lt_of_lt_of_le bI.lt bM)
       refine oneF (c := 15) u rfl (by kernel_rfl) (constF ⟨fun _ _ _ h => h, fun _ _ _ h => h, fun _ _ _ h => h, fun _ _ _ h => h, fun _ _ _ h => h, fun _ _ _ h => h, fun _ _ _ h => h, fun _ _ _ h => h, fun _ _ _ h => h, fun _ _ _ h => h, fun _ _ _ h => h, fun _ _ _ h => h, fun _ _ _ h => h, fun _ _ _ h => h, trivial⟩) ⟨?_, ?_, ?_, ?_, ?_, ?_, ?_, ?_, ?_, ?_, ?_, ?_, ?_, ?_, trivial⟩ ?_
       ·intro a hT
        have hAp := hT.ag u [(0, .pointer (some d))] ⟨rfl, trivial⟩ (by kernel_rfl)
        exact opk_val hAp rfl (r_move (hAp.get rfl)) fun _ _ e => ⟨_, e, rfl, fun _ => Eq.refl _⟩
       ·intro a hT
        have hAp := hT.ag u [] trivial (by kernel_rfl)
        have hAp := hAp.add (t := 44) (v := .pointer (some d)) (hT.vals 0 rfl 44 rfl)
        exact opk_val hAp rfl (r_nilCheck (hAp.get rfl)) fun _ _ e => ⟨_, e, rfl, fun _ => Eq.refl _⟩
       ·intro a hT
        have hAp := hT.ag u [] trivial (by kernel_rfl)
        have hAp := hAp.add (t := 45) (v := .pointer (some d)) (hT.vals 1 rfl 45 rfl)
        exact opk_val hAp rfl (r_fieldAddr (hAp.get rfl) Tryz.underlying74 rfl ti_72 (by decide)) fun _ _ e => ⟨_, e, rfl, fun _ => Eq.refl _⟩
       ·intro a hT
        have hAp := hT.ag u [] trivial (by kernel_rfl)
        have hAp := hAp.add (t := 46) (v := .pointer (some (d.add 0))) (hT.vals 2 rfl 46 rfl)
        exact opk_val hAp rfl (r_load1 tU72 rfl (hAp.get rfl) (Ext.cell hT.chg di)) fun _ _ e => ⟨_, e, rfl, fun _ => Eq.refl _⟩
       ·intro a hT
        have hAp := hT.ag u [(7, .int .i64 (f.n : Int))] ⟨rfl, trivial⟩ (by kernel_rfl)
        exact opk_val hAp rfl (r_move (hAp.get rfl)) fun _ _ e => ⟨_, e, rfl, fun _ => Eq.refl _⟩
       ·intro a hT
        have hAp := hT.ag u [(0, .pointer (some d))] ⟨rfl, trivial⟩ (by kernel_rfl)
        exact opk_val hAp rfl (r_move (hAp.get rfl)) fun _ _ e => ⟨_, e, rfl, fun _ => Eq.refl _⟩
       ·intro a hT
        have hAp := hT.ag u [] trivial (by kernel_rfl)
        have hAp := hAp.add (t := 49) (v := .pointer (some d)) (hT.vals 5 rfl 49 rfl)
        exact opk_val hAp rfl (r_nilCheck (hAp.get rfl)) fun _ _ e => ⟨_, e, rfl, fun _ => Eq.refl _⟩
       ·intro a hT
        have hAp := hT.ag u [] trivial (by kernel_rfl)
        have hAp := hAp.add (t := 50) (v := .pointer (some d)) (hT.vals 6 rfl 50 rfl)
        exact opk_val hAp rfl (r_fieldAddr (hAp.get rfl) Tryz.underlying74 rfl ti_72 (by decide)) fun _ _ e => ⟨_, e, rfl, fun _ => Eq.refl _⟩
       ·intro a hT
        have hAp := hT.ag u [] trivial (by kernel_rfl)
        have hAp := hAp.add (t := 51) (v := .pointer (some (d.add 0))) (hT.vals 7 rfl 51 rfl)
        exact opk_val hAp rfl (r_load1 tU72 rfl (hAp.get rfl) (Ext.cell hT.chg dj)) fun _ _ e => ⟨_, e, rfl, fun _ => Eq.refl _⟩
       ·intro a hT
        have hAp := hT.ag u [(7, .int .i64 (f.n : Int))] ⟨rfl, trivial⟩ (by kernel_rfl)
        exact opk_val hAp rfl (r_move (hAp.get rfl)) fun _ _ e => ⟨_, e, rfl, fun _ => Eq.refl _⟩
       ·intro a hT
        have hAp := hT.ag u [] trivial (by kernel_rfl)
        have hAp := hAp.add (t := 52) (v := Sl.v ao) (hT.vals 8 rfl 52 rfl)
        have hAp := hAp.add (t := 53) (v := .int .i64 (f.n : Int)) (hT.vals 9 rfl 53 rfl)
        exact opk_val hAp rfl (r_indexAddr (hAp.get rfl) (hAp.get rfl) tU72 ti_80 aZ.1 aZ.2) fun _ _ e => ⟨_, e, rfl, fun _ => Eq.refl _⟩
       ·intro a hT
        have hAp := hT.ag u [] trivial (by kernel_rfl)
        have hAp := hAp.add (t := 54) (v := .pointer (some (ak.add ((f.n : Int).toNat * 8)))) (hT.vals 10 rfl 54 rfl)
        exact opk_val hAp rfl (r_fieldAddr (hAp.get rfl) Tryz.underlying80 rfl ti_78 (by decide)) fun _ _ e => ⟨_, e, rfl, fun _ => Eq.refl _⟩
       ·intro a hT
        have hAp := hT.ag u [] trivial (by kernel_rfl)
        have hAp := hAp.add (t := 55) (v := .pointer (some ((ak.add ((f.n : Int).toNat * 8)).add 7))) (hT.vals 11 rfl 55 rfl)
        exact opk_val hAp rfl (r_load1 tU78 rfl (hAp.get rfl) (Ext.cell hT.chg dk)) fun _ _ e => ⟨_, e, rfl, fun _ => Eq.refl _⟩
       ·intro a hT
        have hAp := hT.ag u [(9, .int .i64 z)] ⟨rfl, trivial⟩ (by kernel_rfl)
        exact opk_val hAp rfl (r_move (hAp.get rfl)) fun _ _ e => ⟨_, e, rfl, fun _ => Eq.refl _⟩
       ·intro dm hT
        have dn := hT.ag u [(0, .pointer (some d)), (4, pB o 0), (7, .int .i64 (f.n : Int)), (8, .int .i64 p), (9, .int .i64 z), (58, Sl.v (Sl.mk (some ⟨r, 0, none⟩) 1 1))] ⟨rfl, rfl, rfl, rfl, rfl, rfl, trivial⟩ (by kernel_rfl)
        have dp : dm.tmps.getD 56 undef = Sl.v aD := hT.vals 12 rfl 56 rfl
        have bi := dn.add dp
        have dq := dl bN
        refine (opk_run bi rfl (fun _ _ hr => r_append (bi.get rfl) (bi.get rfl) hr) dq fun fq fr aG dr ds dt fs du => ?_)
        refine ⟨_, ds, ?_⟩
        obtain ⟨ar, rfl, dv⟩ := du
        have dx := dh.kept dt (.head _)
        obtain ⟨bO, dy⟩ := dv
        obtain ⟨ft, dz⟩ := dy
        obtain ⟨fu, dA⟩ := dz
        refine PRF_drop (X := [5, 6, 7, 8, 9, 10, 11, 12, 13]) (Fs' := [0, 1, 2, 3, 4]) dr (by kernel_rfl) fun fv dB fx => ?_
        have aM := dB [(0, .pointer (some d)), (4, pB o 0), (7, .int .i64 (f.n : Int)), (8, .int .i64 p), (59, Sl.v ar)] ⟨rfl, rfl, rfl, rfl, rfl, trivial⟩ (by kernel_rfl)
        refine joinF aM (by kernel_rfl) ⟨fun _ _ _ _ h => h, fun _ _ _ _ h => h, fun _ _ _ _ h => h, fun _ _ _ _ h => h, fun _ _ _ _ h => h, trivial⟩ ⟨?_, ?_, ?_, ?_, ?_, trivial⟩ ?_
        ·intro a w hT
         have hAp := hT.ag aM [(0, .pointer (some d))] ⟨rfl, trivial⟩ (by kernel_rfl)
         exact ovr hAp rfl (r_move (hAp.get rfl)) fun _ => Eq.refl _
        ·intro a w hT
         have hAp := hT.ag aM [] trivial (by kernel_rfl)
         have hAp := hAp.add (t := 44) (v := .pointer (some d)) (hT.vals 0 rfl 44 rfl)
         exact ovr hAp rfl (r_nilCheck (hAp.get rfl)) fun _ => Eq.refl _
        ·intro a w hT
         have hAp := hT.ag aM [] trivial (by kernel_rfl)
         have hAp := hAp.add (t := 45) (v := .pointer (some d)) (hT.vals 1 rfl 45 rfl)
         exact ovr hAp rfl (r_fieldAddr (hAp.get rfl) Tryz.underlying74 rfl ti_72 (by decide)) fun _ => Eq.refl _
        ·intro a w hT
         have hAp := hT.ag aM [] trivial (by kernel_rfl)
         have hAp := hAp.add (t := 46) (v := .pointer (some (d.add 0))) (hT.vals 2 rfl 46 rfl)
         exact ovr hAp rfl (r_load1 tU72 rfl (hAp.get rfl) (Ext.cell hT.chg bO)) fun _ => Eq.refl _
        ·intro a w hT
         have hAp := hT.ag aM [(7, .int .i64 (f.n : Int))] ⟨rfl, trivial⟩ (by kernel_rfl)
         exact ovr hAp rfl (r_move (hAp.get rfl)) fun _ => Eq.refl _
        ·intro bP aH bj dC bQ
         have dD := dC [(0, .pointer (some d)), (4, pB o 0), (7, .int .i64 (f.n : Int)), (8, .int .i64 p), (59, Sl.v ar)] ⟨rfl, rfl, rfl, rfl, rfl, trivial⟩ (by kernel_rfl)
         have dG : bP.tmps.getD 47 undef = Sl.v an := bQ 3 rfl 47 rfl
         have dH := dD.add dG
         have dI : bP.tmps.getD 48 undef = .int .i64 (f.n : Int) := bQ 4 rfl 48 rfl
         have bk := dH.add dI
         have dJ := dx.ext bj
         have dK : Chg [] aG aH := bj
         have fy := Ext.cell bj bO
         have dL := dA aH    dK
         obtain ⟨au, bR, dM⟩ := dL
         refine par (D := aY) (S := [16, 17]) (F := []) (V := VL [(16, fun v _ => v = .pointer (some (au.add ((f.n : Int).toNat * 8)))), (17, fun v _ => v = .pointer (some ((au.add ((f.n : Int).toNat * 8)).add 7)))]) bk (by kernel_rfl) ⟨fun _ _ _ _ h => h, fun _ _ _ _ h => h, trivial⟩ ⟨?_, ?_, trivial⟩ ?_
         ·intro a w hT
          have hAp := hT.ag bk [(47, Sl.v an), (48, .int .i64 (f.n : Int))] ⟨rfl, rfl, trivial⟩ (by kernel_rfl)
          exact ovr hAp rfl (r_indexAddr (hAp.get rfl) (hAp.get rfl) tU72 ti_80 bR.1 bR.2) fun _ => Eq.refl _
         ·intro a w hT
          have hAp := hT.ag bk [] trivial (by kernel_rfl)
          have hAp := hAp.add (t := 60) (v := .pointer (some (au.add ((f.n : Int).toNat * 8)))) (hT.vals 16 rfl 60 rfl)
          exact ovr hAp rfl (r_fieldAddr (hAp.get rfl) Tryz.underlying80 rfl ti_78 (by decide)) fun _ => Eq.refl _
         ·intro dN aI bS dO dP
          have dQ := dO [(0, .pointer (some d)), (4, pB o 0), (7, .int .i64 (f.n : Int)), (8, .int .i64 p), (59, Sl.v ar)] ⟨rfl, rfl, rfl, rfl, rfl, trivial⟩ (by kernel_rfl)
          have dR : dN.tmps.getD 61 undef = .pointer (some ((au.add ((f.n : Int).toNat * 8)).add 7)) := dP 17 rfl 61 rfl
          have bl := dQ.add dR
          have dS := dJ.ext bS
          have dU : Chg [] aH aI := bS
          have dV := dM aI    dU
          obtain ⟨aJ, aR, a9, aS, dX, bT, dY, dZ, d0⟩ := dV
          refine one (D := aY) (i := 18) rfl (by kernel_rfl) (opk_store bl bT (r_store (vs := [Sl.v ar]) (((bl.get rfl)).trans (congrArg (fun a => Value.pointer (some a)) dX)) (bl.get rfl) rfl ti_78 bT (Nat.ble_eq_true_of_le dY) (ones_all _ rfl)) fun fz aK bU d1 d2 => ?_)
          have d3 := dS.keep bU (by have := dZ o (by simp); simpa using this)
          have d4 := d0 aK bU d1
          refine PR_end (by kernel_rfl) ?_
          have d5 := d2.kp [(0, .pointer (some d)), (4, pB o 0), (7, .int .i64 (f.n : Int)), (8, .int .i64 p)] rfl
          refine gK (bs := [(o, 25, [.int .i64 ad, .string (Bs af), .string (Bs ah), Sl.v ai, Sl.v y])]) (N := []) d5 (Chg.refl [] _) ⟨d3, trivial⟩ (by simp) trivial (by simp) d4 ?_
          refine bn <| tn <| gR <| gM ?_
          refine g2s r_addI ?_
          refine gN <| ge ?_
          exact k1 [0]
     ·refine gx <| te <| te <| bh <| tn <| gS <| gR <| gM ?_
      refine gN <| ge <| tn <| gr ?_
      exact gz1
def ref06_D_Insert.vc (l : Addr) (m : Int) (p : Int) (z : Int) (s : Int) (ad : Str) (af : Str) (u : Sl) (x : Sl) (R : Value → World → Prop) (w : World) : Prop :=
∀ (w7 : World) (r : Nat), New w r w7 → Chg [] w w7 →
CallK Tryz.prog 57 #[.pointer (some l), .int .i64 p] w7 [r] (fun v a7 => ∃ (aa : Option Addr), v = .pointer aa ∧
CallK Tryz.prog 77 #[.pointer (some l), .int .i64 m] a7 [r] (fun v aA => ∃ (av : Int), v = .int .i64 av ∧
∃ (aB : Bool), (((((((¬ (0 ≤ av)) ∧ (¬ (m < 1))) ∧ (¬ (1048576 < m))) ∧ (¬ (0 < (x.n : Int)))) ∧ (¬ (0 < (u.n : Int))))) → Calls Tryz.prog 78 #[.agg #[.int .i64 s, .string (Bs ad), .string (Bs af), Sl.v u, Sl.v x], .bool false, .bool true] aA (Ret fun v w' => Ext aA w' ∧ v = .bool aB)) ∧
(∀ ak : World, Ext aA ak →
(((((((0 ≤ av) ∨ (m < 1)) ∨ (1048576 < m)) ∨ (0 < (x.n : Int))) ∨ (0 < (u.n : Int))) ∨ (aB = false)) →
R (.int .i64 1) ak) ∧
(((((((¬ (0 ≤ av)) ∧ (¬ (m < 1))) ∧ (¬ (1048576 < m))) ∧ (¬ (0 < (x.n : Int)))) ∧ (¬ (0 < (u.n : Int)))) ∧ (aB = true)) →
∃ (aC : Sl), (ak.cell? (l.add 0) = some (Sl.v aC)) ∧
((300 ≤ (aC.n : Int)) →
R (.int .i64 2) ak) ∧
((¬ (300 ≤ (aC.n : Int))) →
(((Option.isNone aa) = true) →
R (.int .i64 3) ak) ∧
(((Option.isNone aa) = false) →
CallK Tryz.prog 79 #[.pointer aa] ak [r] (fun v am => ∃ (an : Bool), v = .bool an ∧
∃ aP : Addr, (((an = true) ∧ (s = 5)) → aa = some aP) ∧
∃ (aD : Int), (((an = true) ∧ (s = 5)) → am.cell? ((aP.add 2).add 0) = some (.int .i64 aD)) ∧
(((an = false) ∨ ((s = 5) ∧ (aD ≠ 1))) →
R (.int .i64 4) am) ∧
(((an = true) ∧ ((¬ (s = 5)) ∨ (¬ (aD ≠ 1)))) →
∃ aQ : Addr, (((¬ (z < 0))) → aa = some aQ) ∧
∃ (aG : Sl), (((¬ (z < 0))) → am.cell? (aQ.add 7) = some (Sl.v aG)) ∧
(((z < 0) ∨ ((aG.n : Int) < z)) →
R (.int .i64 5) am) ∧
(((¬ (z < 0)) ∧ (¬ ((aG.n : Int) < z))) →
CallK Tryz.prog 80 #[.pointer (some l), .int .i64 p] am [r] (fun v aH => ∃ (aI : Int), v = .int .i64 aI ∧
((60 ≤ aI) →
R (.int .i64 2) aH) ∧
((¬ (60 ≤ aI)) →
∃ aR : Addr, (aa = some aR) ∧
∃ (aS : Sl), (aH.cell? (aR.add 7) = some (Sl.v aS)) ∧
CallK Tryz.prog 81 #[Sl.v aS, .int .i64 z, .int .i64 m] aH [r] (fun v aU => ∃ (aV : Sl), v = Sl.v aV ∧
∃ aX : Addr, (aa = some aX) ∧
∃ (ao aJ : Nat) (aY : TypeId) (aK : List Value), (aX.add 7) = ⟨ao, aJ, none⟩ ∧ Box aU ao aY aK ∧ aJ + 1 ≤ aK.length ∧ (∀ b ∈ [r], b ≠ ao) ∧
(∀ ax : World, Chg [ao] aU ax → Box ax ao aY (putAt aK aJ [Sl.v aV]) →
∀ (ab : World), Chg [] ax ab →
∃ (al : Sl), (ab.cell? (l.add 0) = some (Sl.v al)) ∧
∃ ai : Int → Str → Str → Sl → Sl → World → Prop, (∀ d : Int, ∀ f : Str, ∀ g : Str, ∀ j : Sl, ∀ k : Sl, ∀ w' w'' : World, Ext w' w'' → ai d f g j k w' → ai d f g j k w'') ∧
(∀ w' : World, Ext ab w' → Calls Tryz.prog 58 #[.agg #[.int .i64 s, .string (Bs ad), .string (Bs af), Sl.v u, Sl.v x]] w' (Ret fun v w'' => Ext w' w'' ∧ ∃ d : Int, ∃ f : Str, ∃ g : Str, ∃ j : Sl, ∃ k : Sl, v = .agg #[.int .i64 d, .string (Bs f), .string (Bs g), Sl.v j, Sl.v k] ∧ ai d f g j k w'')) ∧
∀ (aj : World) (d : Int) (f : Str) (g : Str) (j : Sl) (k : Sl) (q : Nat), Ext ab aj → ai d f g j k aj → ab.heap.size ≤ q → Box aj q 80 [.int .i64 m, .int .i64 p, .int .i64 d, .string (Bs f), .string (Bs g), Sl.v j, Sl.v k, Sl.v Sl.nil] → 
∀ (_ : Box aj q 80 [.int .i64 m, .int .i64 p, .int .i64 d, .string (Bs f), .string (Bs g), Sl.v j, Sl.v k, Sl.v Sl.nil]),
RunK Tryz.prog (Builtin.append_ #[72, 72] 72 #[Sl.v al, Sl.v (Sl.mk (some ⟨q, 0, none⟩) 1 1)]) aj [r] (fun v aZ => ∃ (ap : Sl), v = Sl.v ap ∧
∀ (aq : World), Chg [] aZ aq →
∀ (ar : World), Chg [] aq ar →
∃ (au aL : Nat) (a0 : TypeId) (aM : List Value), (l.add 0) = ⟨au, aL, none⟩ ∧ Box ar au a0 aM ∧ aL + 1 ≤ aM.length ∧ (∀ b ∈ [r], b ≠ au) ∧
(∀ ay : World, Chg [au] ar ay → Box ay au a0 (putAt aM aL [Sl.v ap]) →
R (.int .i64 0) ay)))))))))))))))
theorem ref06_D_Insert.ok (l : Addr) (m : Int) (p : Int) (z : Int) (s : Int) (ad : Str) (af : Str) (u : Sl) (x : Sl) {R : Value → World → Prop} {w : World} (bo : ref06_D_Insert.vc l m p z s ad af u x R w) : Calls Tryz.prog 51 #[.pointer (some l), .int .i64 m, .int .i64 p, .int .i64 z, .agg #[.int .i64 s, .string (Bs ad), .string (Bs af), Sl.v u, Sl.v x]] w (Ret R) := by
 refine go _ Tryz.func51 Tryz.ntmps51 bo ?_
 refine gS <| gR <| nb fun w7 r => ?_
 refine gN <| ge <| tn <| gS <| gR ?_
 refine gM ?_
 refine gM <| gT1 ?_
 refine gC [0] Tryz.func57 fun _ a7 => gE fun aa => gQ ?_
 refine gN <| ge <| tn <| gS <| gb <| gS <| gR ?_
 refine gM ?_
 refine gM ?_
 refine gC [0] Tryz.func77 fun _ aA => gE fun av => gQ ?_
 refine g2 r_geq ?_
 refine gM ?_
 refine G1 r_move ?_
 refine G2 r_lss ?_
 refine gpo ?_
 refine gM ?_
 refine G1 r_move ?_
 refine G2 r_gtr ?_
 refine gpo ?_
 refine gM ?_
 refine GF 4 Tryz.underlying25 ti_23 ?_
 refine GB 0 tU23 ?_
 refine G1 (fun ah => r_len ah tU23) ?_
 refine G2 r_gtr ?_
 refine gpo ?_
 refine gM ?_
 refine GF 3 Tryz.underlying25 ti_22 ?_
 refine GB 0 tU22 ?_
 refine G1 (fun ah => r_len ah tU22) ?_
 refine G2 r_gtr ?_
 refine gpo ?_
 refine gM ?_
 refine GBN 0 5 Tryz.underlying25 ti_25 ?_
 refine gE fun aB => GC Tryz.func78 (fun hg => ⟨⟨⟨⟨(dF (oF (oF (oF (oF (g_f hg)).1).1).1).1), (dF (oF (oF (oF (oF (g_f hg)).1).1).1).2)⟩, (dF (oF (oF (oF (g_f hg)).1).1).2)⟩, (dF (oF (oF (g_f hg)).1).2)⟩, (dF (oF (g_f hg)).2)⟩) fun ak => ?_
 refine G1 r_not ?_
 refine gpo ?_
 refine gN <| ge <| tn ?_
 refine gi (fun h => ((oT h).imp (fun h => ((oT h).imp (fun h => ((oT h).imp (fun h => ((oT h).imp (fun h => ((oT h).imp (fun h => (dT h)) (fun h => (dT h)))) (fun h => (dT h)))) (fun h => (dT h)))) (fun h => (dT h)))) (fun h => (nT h)))) (fun h => ⟨⟨⟨⟨⟨(dF (oF (oF (oF (oF (oF h).1).1).1).1).1), (dF (oF (oF (oF (oF (oF h).1).1).1).1).2)⟩, (dF (oF (oF (oF (oF h).1).1).1).2)⟩, (dF (oF (oF (oF h).1).1).2)⟩, (dF (oF (oF h).1).2)⟩, (nF (oF h).2)⟩) ?_ ?_
 ·refine gS <| gR <| gN <| ge <| tn <| gr <| br <| tr ?_
  exact gz1
 ·refine gS <| gR <| gM ?_
  refine g1 r_nilCheck ?_
  refine gF 0 Tryz.underlying74 ti_72 ?_
  refine gE fun aC => gL tU72 ?_
  refine g1 (fun ah => r_len ah tU72) ?_
  refine g2 r_geq ?_
  refine gN <| ge <| tn ?_
  refine gi dT dF ?_ ?_
  ·refine gS <| gR <| gN <| ge <| tn <| gr <| br <| tr ?_
   exact gz1
  ·refine gS <| gR <| gM ?_
   refine g2 (fun ah bp => r_pnil (o := aa) ah bp tU76) ?_
   refine gN <| ge <| tn ?_
   refine gi id id ?_ ?_
   ·refine gS <| gR <| gN <| ge <| tn <| gr <| br <| tr ?_
    exact gz1
   ·refine gS <| gR <| gM ?_
    refine gC [0] Tryz.func79 fun _ am => gE fun an => gQ ?_
    refine g1 r_not ?_
    refine gM ?_
    refine GF 0 Tryz.underlying25 ti_3 ?_
    refine GB 0 tU3 ?_
    refine G2 r_eql ?_
    refine G1 r_move ?_
    refine G1 r_move ?_
    refine GnP (fun hg => ⟨(nF (g_f (g_up hg))), (dT (g_t hg))⟩) fun aP => ?_
    refine GF 2 Tryz.underlying80 ti_25 ?_
    refine GF 0 Tryz.underlying25 ti_3 ?_
    refine gE fun aD => GLd tU3 (fun hg => ⟨(nF (g_f (g_up hg))), (dT (g_t hg))⟩) ?_
    refine G2 r_neq ?_
    refine Gpa ?_
    refine gpo ?_
    refine gN <| ge <| tn ?_
    refine gi (fun h => ((oT h).imp (fun h => (nT h)) (fun h => ⟨(dT (aT h).1), (dT (aT h).2)⟩))) (fun h => ⟨(nF (oF h).1), ((aF (oF h).2).imp (fun h => (dF h)) (fun h => (dF h)))⟩) ?_ ?_
    ·refine gS <| gR <| gN <| ge <| tn <| gr <| br <| tr ?_
     exact gz1
    ·refine gS <| gR <| gM ?_
     refine g2 r_lss ?_
     refine gM ?_
     refine G1 r_move ?_
     refine G1 r_move ?_
     refine GnP (fun hg => (dF (g_f hg))) fun aQ => ?_
     refine GF 7 Tryz.underlying80 ti_78 ?_
     refine gE fun aG => GLd tU78 (fun hg => (dF (g_f hg))) ?_
     refine G1 (fun ah => r_len ah tU78) ?_
     refine G2 r_gtr ?_
     refine gpo ?_
     refine gN <| ge <| tn ?_
     refine gi (fun h => ((oT h).imp (fun h => (dT h)) (fun h => (dT h)))) (fun h => ⟨(dF (oF h).1), (dF (oF h).2)⟩) ?_ ?_
     ·refine gS <| gR <| gN <| ge <| tn <| gr <| br <| tr ?_
      exact gz1
     ·refine gS <| gR <| gM ?_
      refine gM ?_
      refine gC [0] Tryz.func80 fun _ aH => gE fun aI => gQ ?_
      refine g2 r_geq ?_
      refine gN <| ge <| tn ?_
      refine gi dT dF ?_ ?_
      ·refine gS <| gR <| gN <| ge <| tn <| gr <| br <| tr ?_
       exact gz1
      ·refine gk <| bn <| tn <| gS <| gR <| gM ?_
       refine gM ?_
       refine gnP fun aR => ?_
       refine gF 7 Tryz.underlying80 ti_78 ?_
       refine gE fun aS => gL tU78 ?_
       refine gM ?_
       refine gM ?_
       refine gC [0] Tryz.func81 fun _ aU => gE fun aV => gQ ?_
       refine gnP fun aX => ?_
       refine gF 7 Tryz.underlying80 ti_78 ?_
       refine wx [0] ti_78 fun ao aJ aY aK ax => ge <| tn <| gS ?_
       intro cr a8 bq
       have y := a8.ag
       have bt := a8.bx 0 rfl
       let aN : List (List Nat) := [[], [], [1], [1, 2], [1, 2, 3], [], [], [], [7], [5, 6, 7, 8], [5, 6, 7, 8, 9], [1, 2, 3, 4, 5, 6, 7, 8, 9, 10], [0, 1, 2, 3, 4, 5, 6, 7, 8, 9, 10, 11], [0, 1, 2, 3, 4, 5, 6, 7, 8, 9, 10, 11, 12], [0, 1, 2, 3, 4, 5, 6, 7, 8, 9, 10, 11, 12, 13]]
       refine draw' (by kernel_rfl) fun ab a9 => ?_
       have a1 := bt.ext a9
       have bu : Chg [] ax ab := a9
       have bv := bq ab    bu
       refine startF (D := aN) (Fs := [0, 1, 5, 6, 7]) (Ef := [(0, fun v _ => v = .pointer (some l)), (1, fun v _ => v = .pointer (some l)), (5, fun v _ => v = .int .i64 m), (6, fun v _ => v = .int .i64 p), (7, fun v _ => v = .agg #[.int .i64 s, .string (Bs ad), .string (Bs af), Sl.v u, Sl.v x])]) (by kernel_rfl) ?_
       obtain ⟨al, bz, bA⟩ := bv
       obtain ⟨ai, aO, bB, bC⟩ := bA
       refine parF (D := aN) (S := [2, 3, 4, 8, 9, 10]) (F := []) (KE := [2, 3, 4, 8, 9, 10]) (E := [(2, fun v _ => v = .pointer (some l)), (3, fun v _ => v = .pointer (some (l.add 0))), (4, fun v _ => v = Sl.v al), (8, fun v w' => ∃ d : Int, ∃ f : Str, ∃ g : Str, ∃ j : Sl, ∃ k : Sl, ai d f g j k w' ∧ v = .agg #[.int .i64 d, .string (Bs f), .string (Bs g), Sl.v j, Sl.v k]), (9, fun v w' => ∃ d : Int, ∃ f : Str, ∃ g : Str, ∃ j : Sl, ∃ k : Sl, ai d f g j k w' ∧ v = .agg #[.int .i64 m, .int .i64 p, .int .i64 d, .string (Bs f), .string (Bs g), Sl.v j, Sl.v k, Sl.v Sl.nil]), (10, fun v w' => ∃ d : Int, ∃ f : Str, ∃ g : Str, ∃ j : Sl, ∃ k : Sl, ∃ q : Nat, ai d f g j k w' ∧ ab.heap.size ≤ q ∧ Box w' q 80 [.int .i64 m, .int .i64 p, .int .i64 d, .string (Bs f), .string (Bs g), Sl.v j, Sl.v k, Sl.v Sl.nil] ∧ v = Sl.v (Sl.mk (some ⟨q, 0, none⟩) 1 1))]) y rfl (by kernel_rfl) ⟨fun _ _ _ _ h => h, fun _ _ _ _ h => h, fun _ _ _ _ h => h, fun _ _ _ hE ⟨d, f, g, j, k, h0_, e⟩ => ⟨d, f, g, j, k, (aO d f g j k _ _ hE h0_), e⟩, fun _ _ _ hE ⟨d, f, g, j, k, h0_, e⟩ => ⟨d, f, g, j, k, (aO d f g j k _ _ hE h0_), e⟩, fun _ _ _ hE ⟨d, f, g, j, k, q, h0_, h1_, h2_, e⟩ => ⟨d, f, g, j, k, q, (aO d f g j k _ _ hE h0_), h1_, (h2_.ext hE), e⟩, fun _ _ _ _ h => h, fun _ _ _ _ h => h, fun _ _ _ _ h => h, fun _ _ _ _ h => h, fun _ _ _ _ h => h, trivial⟩ ⟨?_, ?_, ?_, ?_, ?_, ?_, ?_, ?_, ?_, ?_, ?_, trivial⟩ ?_
       ·intro a w hT
        have hAp := hT.ag y [] trivial (by kernel_rfl)
        have hAp := hAp.add (t := 100) (v := .pointer (some l)) (hT.vals 1 rfl 100 rfl)
        exact ovr hAp rfl (r_nilCheck (hAp.get rfl)) fun _ => Eq.refl _
       ·intro a w hT
        have hAp := hT.ag y [] trivial (by kernel_rfl)
        have hAp := hAp.add (t := 101) (v := .pointer (some l)) (hT.vals 2 rfl 101 rfl)
        exact ovr hAp rfl (r_fieldAddr (hAp.get rfl) Tryz.underlying74 rfl ti_72 (by decide)) fun _ => Eq.refl _
       ·intro a w hT
        have hAp := hT.ag y [] trivial (by kernel_rfl)
        have hAp := hAp.add (t := 102) (v := .pointer (some (l.add 0))) (hT.vals 3 rfl 102 rfl)
        exact ovr hAp rfl (r_load1 tU72 rfl (hAp.get rfl) (Ext.cell hT.chg bz)) fun _ => Eq.refl _
       ·intro a w hT
        have hAp := hT.ag y [] trivial (by kernel_rfl)
        have hAp := hAp.add (t := 106) (v := .agg #[.int .i64 s, .string (Bs ad), .string (Bs af), Sl.v u, Sl.v x]) (hT.vals 7 rfl 106 rfl)
        exact opk_callX hAp rfl (r_call (args := #[.agg #[.int .i64 s, .string (Bs ad), .string (Bs af), Sl.v u, Sl.v x]]) Tryz.func58 (by decide) rfl (map_arr (ml_cons (hAp.get rfl) ml_nil)) rfl) (bB w hT.chg) fun _ _ _ _ e ⟨hE, d, f, g, j, k, he, hV⟩ => ⟨_, e, hE, fun _ => ⟨d, f, g, j, k, hV, he⟩⟩
       ·intro a w hT
        have hAp := hT.ag y [] trivial (by kernel_rfl)
        have hAp := hAp.add (t := 104) (v := .int .i64 m) (hT.vals 5 rfl 104 rfl)
        have hAp := hAp.add (t := 105) (v := .int .i64 p) (hT.vals 6 rfl 105 rfl)
        obtain ⟨d, f, g, j, k, bD, bF⟩ := hT.vals 8 rfl 107 rfl
        have hAp := hAp.add bF
        exact opk_val hAp rfl (r_build (vs := #[(0, .int .i64 m), (1, .int .i64 p), (2, .agg #[.int .i64 d, .string (Bs f), .string (Bs g), Sl.v j, Sl.v k])]) (cells := #[.int .i64 m, .int .i64 p, .int .i64 d, .string (Bs f), .string (Bs g), Sl.v j, Sl.v k, Sl.v Sl.nil]) (map_arr2 (ml2_cons (hAp.get rfl) (ml2_cons (hAp.get rfl) (ml2_cons (hAp.get rfl) (ml2_nil))))) ti_80 Tryz.underlying80 pl_80 (by kernel_rfl)) fun _ _ e => ⟨_, e, Chg.refl _ _, fun _ => ⟨d, f, g, j, k, bD, rfl⟩⟩
       ·intro a w hT
        have hAp := hT.ag y [] trivial (by kernel_rfl)
        obtain ⟨d, f, g, j, k, bG, bH⟩ := hT.vals 9 rfl 108 rfl
        have hAp := hAp.add bH
        exact opk_new (fun B => .slice (some ⟨B, 0, none⟩) 1 1) hAp rfl (r_buildSlice (vs := #[(0, .agg #[.int .i64 m, .int .i64 p, .int .i64 d, .string (Bs f), .string (Bs g), Sl.v j, Sl.v k, Sl.v Sl.nil])]) (cs := [.int .i64 m, .int .i64 p, .int .i64 d, .string (Bs f), .string (Bs g), Sl.v j, Sl.v k, Sl.v Sl.nil]) (map_arr2 (ml2_cons (hAp.get rfl) (ml2_nil))) tU72 ti_80 rfl rfl (by kernel_rfl)) fun _ ct q ba bI bJ _ e => ⟨_, e, ba, fun _ => ⟨d, f, g, j, k, q, (aO d f g j k _ _ ba bG), Nat.le_trans hT.chg.size bI.ge, bJ, rfl⟩⟩
       ·intro a w hT
        have hAp := hT.ag y [(0, .pointer (some l))] ⟨rfl, trivial⟩ (by kernel_rfl)
        exact ovr hAp rfl (r_move (hAp.get rfl)) fun _ => Eq.refl _
       ·intro a w hT
        have hAp := hT.ag y [(0, .pointer (some l))] ⟨rfl, trivial⟩ (by kernel_rfl)
        exact ovr hAp rfl (r_move (hAp.get rfl)) fun _ => Eq.refl _
       ·intro a w hT
        have hAp := hT.ag y [(1, .int .i64 m)] ⟨rfl, trivial⟩ (by kernel_rfl)
        exact ovr hAp rfl (r_move (hAp.get rfl)) fun _ => Eq.refl _
       ·intro a w hT
        have hAp := hT.ag y [(2, .int .i64 p)] ⟨rfl, trivial⟩ (by kernel_rfl)
        exact ovr hAp rfl (r_move (hAp.get rfl)) fun _ => Eq.refl _
       ·intro a w hT
        have hAp := hT.ag y [(9, pB r 0)] ⟨rfl, trivial⟩ (by kernel_rfl)
        exact ovr hAp rfl (r_loadN (cs := [.int .i64 s, .string (Bs ad), .string (Bs af), Sl.v u, Sl.v x]) Tryz.underlying25 rfl ti_25 (hAp.get rfl) ((a1.ext hT.chg).part 0 _ rfl)) fun _ => Eq.refl _
       ·intro bK aj a2 bL bb
        have bM := bL [(0, .pointer (some l)), (1, .int .i64 m), (2, .int .i64 p), (9, pB r 0)] ⟨rfl, rfl, rfl, rfl, trivial⟩ (by kernel_rfl)
        have bN : bK.tmps.getD 103 undef = Sl.v al := bb 4 rfl 103 rfl
        have bO := bM.add bN
        obtain ⟨d, f, g, j, k, q, bP, bd, bf, bQ⟩ := bb 10 rfl 109 rfl
        have bR := bO.add bQ
        have bS := a1.ext a2
        have cu : Chg [] ab aj := a2
        have bT := bC aj d f g j k q a2 bP bd bf
        have cv : r ≠ q := Nat.ne_of_lt (Nat.lt_of_lt_of_le a1.lt bd)
        refine PRF_drop (X := [1, 5, 6, 7]) (Fs' := [0]) bR (by kernel_rfl) fun cx bU cy => ?_
        have a3 := bU [(0, .pointer (some l)), (103, Sl.v al), (109, Sl.v (Sl.mk (some ⟨q, 0, none⟩) 1 1))] ⟨rfl, rfl, rfl, trivial⟩ (by kernel_rfl)
        refine oneF (c := 11) a3 rfl (by kernel_rfl) (constF ⟨fun _ _ _ h => h, trivial⟩) ⟨?_, trivial⟩ ?_
        ·intro a hT
         have hAp := hT.ag a3 [(0, .pointer (some l))] ⟨rfl, trivial⟩ (by kernel_rfl)
         exact opk_val hAp rfl (r_move (hAp.get rfl)) fun _ _ e => ⟨_, e, rfl, fun _ => Eq.refl _⟩
        ·intro cz hT
         have a4 := hT.ag a3 [(0, .pointer (some l)), (103, Sl.v al), (109, Sl.v (Sl.mk (some ⟨q, 0, none⟩) 1 1))] ⟨rfl, rfl, rfl, trivial⟩ (by kernel_rfl)
         have bV := bT bf
         refine (opk_run a4 rfl (fun _ _ hr => r_append (a4.get rfl) (a4.get rfl) hr) bV fun cA cB aZ bg bX bY cC bZ => ?_)
         refine ⟨_, bX, ?_⟩
         obtain ⟨ap, rfl, b0⟩ := bZ
         have b1 := bS.kept bY (.head _)
         refine joinF bg (by kernel_rfl) ⟨fun _ _ _ _ h => h, trivial⟩ ⟨?_, trivial⟩ ?_
         ·intro a w hT
          have hAp := hT.ag bg [(0, .pointer (some l))] ⟨rfl, trivial⟩ (by kernel_rfl)
          exact ovr hAp rfl (r_move (hAp.get rfl)) fun _ => Eq.refl _
         ·intro b2 aq bi b3 b4
          have b5 := b3 [(110, Sl.v ap)] ⟨rfl, trivial⟩ (by kernel_rfl)
          have b6 : b2.tmps.getD 99 undef = .pointer (some l) := b4 0 rfl 99 rfl
          have a5 := b5.add b6
          have b7 := b1.ext bi
          have b8 : Chg [] aZ aq := bi
          have b9 := b0 aq    b8
          refine par (D := aN) (S := [12, 13]) (F := []) (V := VL [(12, fun v _ => v = .pointer (some l)), (13, fun v _ => v = .pointer (some (l.add 0)))]) a5 (by kernel_rfl) ⟨fun _ _ _ _ h => h, fun _ _ _ _ h => h, trivial⟩ ⟨?_, ?_, trivial⟩ ?_
          ·intro a w hT
           have hAp := hT.ag a5 [(99, .pointer (some l))] ⟨rfl, trivial⟩ (by kernel_rfl)
           exact ovr hAp rfl (r_nilCheck (hAp.get rfl)) fun _ => Eq.refl _
          ·intro a w hT
           have hAp := hT.ag a5 [] trivial (by kernel_rfl)
           have hAp := hAp.add (t := 111) (v := .pointer (some l)) (hT.vals 12 rfl 111 rfl)
           exact ovr hAp rfl (r_fieldAddr (hAp.get rfl) Tryz.underlying74 rfl ti_72 (by decide)) fun _ => Eq.refl _
          ·intro ca ar bj cb cc
           have cd := cb [(110, Sl.v ap)] ⟨rfl, trivial⟩ (by kernel_rfl)
           have cf : ca.tmps.getD 112 undef = .pointer (some (l.add 0)) := cc 13 rfl 112 rfl
           have a6 := cd.add cf
           have cg := b7.ext bj
           have ch : Chg [] aq ar := bj
           have ci := b9 ar    ch
           obtain ⟨au, aL, a0, aM, cj, bk, ck, cl, cm⟩ := ci
           refine one (D := aN) (i := 14) rfl (by kernel_rfl) (opk_store a6 bk (r_store (vs := [Sl.v ap]) (((a6.get rfl)).trans (congrArg (fun a => Value.pointer (some a)) cj)) (a6.get rfl) rfl ti_72 bk (Nat.ble_eq_true_of_le ck) (ones_all _ rfl)) fun cD ay bl cn co => ?_)
           have cF := cg.keep bl (by have := cl r (by simp); simpa using this)
           have cp := cm ay bl cn
           refine PR_end (by kernel_rfl) ?_
           have cq := co.kp [] rfl
           refine gK (bs := []) (N := []) cq (Chg.refl [] _) trivial (by simp) trivial (by simp) cp ?_
           refine tn <| gS <| gR <| gN <| ge <| tn <| gr ?_
           exact gz1
def ref06_D_Delete.vc (d : Addr) (u : Int) (R : Value → World → Prop) (w : World) : Prop :=
CallK Tryz.prog 57 #[.pointer (some d), .int .i64 u] w [] (fun v p => ∃ (q : Option Addr), v = .pointer q ∧
(((Option.isNone q) = true) →
R (.int .i64 3) p) ∧
(((Option.isNone q) = false) →
∃ ar : Addr, (q = some ar) ∧
∃ (ai : Int), (p.cell? ((ar.add 2).add 0) = some (.int .i64 ai)) ∧
((ai = 1) →
R (.int .i64 4) p) ∧
((¬ (ai = 1)) →
∃ au : Addr, (q = some au) ∧
∃ (aj : Sl), (p.cell? (au.add 7) = some (Sl.v aj)) ∧
((0 < (aj.n : Int)) →
R (.int .i64 7) p) ∧
((¬ (0 < (aj.n : Int))) →
∃ av : Addr, (q = some av) ∧
∃ (ax : Int), (p.cell? (av.add 1) = some (.int .i64 ax)) ∧
CallK Tryz.prog 57 #[.pointer (some d), .int .i64 ax] p [] (fun v ay => ∃ (ak : Option Addr), v = .pointer ak ∧
∃ az : Addr, (ak = some az) ∧
∃ (aA : Sl), (ay.cell? (az.add 7) = some (Sl.v aA)) ∧
CallK Tryz.prog 82 #[Sl.v aA, .int .i64 u] ay [] (fun v aB => ∃ (aC : Sl), v = Sl.v aC ∧
∃ aD : Addr, (ak = some aD) ∧
∃ (x al : Nat) (aG : TypeId) (am : List Value), (aD.add 7) = ⟨x, al, none⟩ ∧ Box aB x aG am ∧ al + 1 ≤ am.length ∧ (∀ b ∈ [], b ≠ x) ∧
(∀ an : World, Chg [x] aB an → Box an x aG (putAt am al [Sl.v aC]) →
CallK Tryz.prog 77 #[.pointer (some d), .int .i64 u] an [] (fun v aH => ∃ (f : Int), v = .int .i64 f ∧
∀ (m : World), Chg [] aH m →
(I64 (f + 1)) ∧
∃ (l : Sl), (m.cell? (d.add 0) = some (Sl.v l)) ∧
((0 : Int) ≤ f ∧ f ≤ (l.c : Int)) ∧
∃ y : Sl → World → Prop, (∀ g : Sl, ∀ w' w'' : World, Ext w' w'' → y g w' → y g w'') ∧
(∀ w' : World, Ext m w' → ∃ v w'', (Builtin.append_ #[72, 72] 72 #[Sl.v Sl.nil, Sl.v (Sl.cut l 8 0 f.toNat l.c)]).run Tryz.prog w' = .ok v w'' ∧ Ext w' w'' ∧ ∃ g : Sl, v = Sl.v g ∧ y g w'') ∧
∃ (j : Sl), (m.cell? (d.add 0) = some (Sl.v j)) ∧
((0 : Int) ≤ f + 1 ∧ f + 1 ≤ (j.n : Int)) ∧
∀ (z : World) (g : Sl), Ext m z → y g z → 
RunK Tryz.prog (Builtin.append_ #[72, 72] 72 #[Sl.v g, Sl.v (Sl.cut j 8 (f + 1).toNat j.n j.c)]) z [] (fun v aI => ∃ (aa : Sl), v = Sl.v aa ∧
∀ (ab : World), Chg [] aI ab →
∀ (ad : World), Chg [] ab ad →
∃ (af ao : Nat) (aJ : TypeId) (ap : List Value), (d.add 0) = ⟨af, ao, none⟩ ∧ Box ad af aJ ap ∧ ao + 1 ≤ ap.length ∧ (∀ b ∈ [], b ≠ af) ∧
(∀ ah : World, Chg [af] ad ah → Box ah af aJ (putAt ap ao [Sl.v aa]) →
R (.int .i64 0) ah))))))))))
theorem ref06_D_Delete.ok (d : Addr) (u : Int) {R : Value → World → Prop} {w : World} (aS : ref06_D_Delete.vc d u R w) : Calls Tryz.prog 52 #[.pointer (some d), .int .i64 u] w (Ret R) := by
 refine go _ Tryz.func52 Tryz.ntmps52 aS ?_
 refine gS <| gR <| gN <| ge <| tn <| gS <| gR ?_
 refine gM ?_
 refine gM ?_
 refine gC [] Tryz.func57 fun _ p => gE fun q => gQ ?_
 refine gN <| ge <| tn <| gS <| gb <| gS <| gR ?_
 refine gM ?_
 refine g2 (fun aK aU => r_pnil (o := q) aK aU tU76) ?_
 refine gN <| ge <| tn ?_
 refine gi id id ?_ ?_
 ·refine gS <| gR <| gN <| ge <| tn <| gr <| br <| tr ?_
  exact gz1
 ·refine gS <| gR <| gM ?_
  refine gnP fun ar => ?_
  refine gF 2 Tryz.underlying80 ti_25 ?_
  refine gF 0 Tryz.underlying25 ti_3 ?_
  refine gE fun ai => gL tU3 ?_
  refine g2 r_eql ?_
  refine gN <| ge <| tn ?_
  refine gi dT dF ?_ ?_
  ·refine gS <| gR <| gN <| ge <| tn <| gr <| br <| tr ?_
   exact gz1
  ·refine gS <| gR <| gM ?_
   refine gnP fun au => ?_
   refine gF 7 Tryz.underlying80 ti_78 ?_
   refine gE fun aj => gL tU78 ?_
   refine g1 (fun aK => r_len aK tU78) ?_
   refine g2 r_gtr ?_
   refine gN <| ge <| tn ?_
   refine gi dT dF ?_ ?_
   ·refine gS <| gR <| gN <| ge <| tn <| gr <| br <| tr ?_
    exact gz1
   ·refine gk <| bn <| tn <| gS <| gR <| gM ?_
    refine gM ?_
    refine gnP fun av => ?_
    refine gF 1 Tryz.underlying80 ti_3 ?_
    refine gE fun ax => gL tU3 ?_
    refine gC [] Tryz.func57 fun _ ay => gE fun ak => gQ ?_
    refine gN <| ge <| tn <| gS <| gR ?_
    refine gM ?_
    refine gM ?_
    refine gnP fun az => ?_
    refine gF 7 Tryz.underlying80 ti_78 ?_
    refine gE fun aA => gL tU78 ?_
    refine gM ?_
    refine gC [] Tryz.func82 fun _ aB => gE fun aC => gQ ?_
    refine gnP fun aD => ?_
    refine gF 7 Tryz.underlying80 ti_78 ?_
    refine wx [] ti_78 fun x al aG am an => ge <| tn <| gS <| gR ?_
    refine gM ?_
    refine gM ?_
    refine gC [] Tryz.func77 fun _ aH => gE fun f => gQ ?_
    refine gN <| ge <| tn <| gS ?_
    intro bX aV aX
    have k := aV.ag
    let aq : List (List Nat) := [[], [], [1], [1, 2], [1, 2, 3], [], [1, 2, 3, 4, 5], [1, 2, 3, 4, 5, 6], [], [8], [8, 9], [8, 9, 10], [], [12], [8, 9, 10, 11, 12, 13], [1, 2, 3, 4, 5, 6, 7, 8, 9, 10, 11, 12, 13, 14], [0, 1, 2, 3, 4, 5, 6, 7, 8, 9, 10, 11, 12, 13, 14, 15], [0, 1, 2, 3, 4, 5, 6, 7, 8, 9, 10, 11, 12, 13, 14, 15, 16], [0, 1, 2, 3, 4, 5, 6, 7, 8, 9, 10, 11, 12, 13, 14, 15, 16, 17]]
    refine draw' (by kernel_rfl) fun m aY => ?_
    have aZ : Chg [] aH m := aY
    have a0 := aX m    aZ
    obtain ⟨aL, a1⟩ := a0
    refine startF (D := aq) (Fs := [0, 1, 5, 8, 12, 13]) (Ef := [(0, fun v _ => v = .pointer (some d)), (1, fun v _ => v = .pointer (some d)), (5, fun v _ => v = .int .i64 f), (8, fun v _ => v = .pointer (some d)), (12, fun v _ => v = .int .i64 f), (13, fun v _ => v = .int .i64 (f + 1))]) (by kernel_rfl) ?_
    obtain ⟨l, a2, a3⟩ := a1
    obtain ⟨a4, a5⟩ := a3
    obtain ⟨y, a6, a7, a8⟩ := a5
    obtain ⟨j, a9, ba⟩ := a8
    obtain ⟨bb, bd⟩ := ba
    refine parF (D := aq) (S := [2, 3, 4, 6, 7, 9, 10, 11, 14]) (F := []) (KE := [2, 3, 4, 6, 7, 9, 10, 11, 14]) (E := [(2, fun v _ => v = .pointer (some d)), (3, fun v _ => v = .pointer (some (d.add 0))), (4, fun v _ => v = Sl.v l), (6, fun v _ => v = Sl.v (Sl.cut l 8 0 f.toNat l.c)), (7, fun v w' => ∃ g : Sl, y g w' ∧ v = Sl.v g), (9, fun v _ => v = .pointer (some d)), (10, fun v _ => v = .pointer (some (d.add 0))), (11, fun v _ => v = Sl.v j), (14, fun v _ => v = Sl.v (Sl.cut j 8 (f + 1).toNat j.n j.c))]) k rfl (by kernel_rfl) ⟨fun _ _ _ _ h => h, fun _ _ _ _ h => h, fun _ _ _ _ h => h, fun _ _ _ _ h => h, fun _ _ _ hE ⟨g, h0_, e⟩ => ⟨g, (a6 g _ _ hE h0_), e⟩, fun _ _ _ _ h => h, fun _ _ _ _ h => h, fun _ _ _ _ h => h, fun _ _ _ _ h => h, fun _ _ _ _ h => h, fun _ _ _ _ h => h, fun _ _ _ _ h => h, fun _ _ _ _ h => h, fun _ _ _ _ h => h, fun _ _ _ _ h => h, trivial⟩ ⟨?_, ?_, ?_, ?_, ?_, ?_, ?_, ?_, ?_, ?_, ?_, ?_, ?_, ?_, ?_, trivial⟩ ?_
    ·intro a w hT
     have hAp := hT.ag k [] trivial (by kernel_rfl)
     have hAp := hAp.add (t := 47) (v := .pointer (some d)) (hT.vals 1 rfl 47 rfl)
     exact ovr hAp rfl (r_nilCheck (hAp.get rfl)) fun _ => Eq.refl _
    ·intro a w hT
     have hAp := hT.ag k [] trivial (by kernel_rfl)
     have hAp := hAp.add (t := 48) (v := .pointer (some d)) (hT.vals 2 rfl 48 rfl)
     exact ovr hAp rfl (r_fieldAddr (hAp.get rfl) Tryz.underlying74 rfl ti_72 (by decide)) fun _ => Eq.refl _
    ·intro a w hT
     have hAp := hT.ag k [] trivial (by kernel_rfl)
     have hAp := hAp.add (t := 49) (v := .pointer (some (d.add 0))) (hT.vals 3 rfl 49 rfl)
     exact ovr hAp rfl (r_load1 tU72 rfl (hAp.get rfl) (Ext.cell hT.chg a2)) fun _ => Eq.refl _
    ·intro a w hT
     have hAp := hT.ag k [] trivial (by kernel_rfl)
     have hAp := hAp.add (t := 50) (v := Sl.v l) (hT.vals 4 rfl 50 rfl)
     have hAp := hAp.add (t := 51) (v := .int .i64 f) (hT.vals 5 rfl 51 rfl)
     exact ovr hAp rfl (r_sliceH (hAp.get rfl) (hAp.get rfl) tU72 ti_80 a4) fun _ => Eq.refl _
    ·intro a w hT
     have hAp := hT.ag k [] trivial (by kernel_rfl)
     have hAp := hAp.add (t := 52) (v := Sl.v (Sl.cut l 8 0 f.toNat l.c)) (hT.vals 6 rfl 52 rfl)
     exact opk_runX hAp rfl (fun _ _ hr => r_append rfl (hAp.get rfl) hr) (a7 w hT.chg) fun _ _ _ _ e ⟨hE, g, he, hV⟩ => ⟨_, e, hE, fun _ => ⟨g, hV, he⟩⟩
    ·intro a w hT
     have hAp := hT.ag k [] trivial (by kernel_rfl)
     have hAp := hAp.add (t := 54) (v := .pointer (some d)) (hT.vals 8 rfl 54 rfl)
     exact ovr hAp rfl (r_nilCheck (hAp.get rfl)) fun _ => Eq.refl _
    ·intro a w hT
     have hAp := hT.ag k [] trivial (by kernel_rfl)
     have hAp := hAp.add (t := 55) (v := .pointer (some d)) (hT.vals 9 rfl 55 rfl)
     exact ovr hAp rfl (r_fieldAddr (hAp.get rfl) Tryz.underlying74 rfl ti_72 (by decide)) fun _ => Eq.refl _
    ·intro a w hT
     have hAp := hT.ag k [] trivial (by kernel_rfl)
     have hAp := hAp.add (t := 56) (v := .pointer (some (d.add 0))) (hT.vals 10 rfl 56 rfl)
     exact ovr hAp rfl (r_load1 tU72 rfl (hAp.get rfl) (Ext.cell hT.chg a9)) fun _ => Eq.refl _
    ·intro a w hT
     have hAp := hT.ag k [] trivial (by kernel_rfl)
     have hAp := hAp.add (t := 57) (v := Sl.v j) (hT.vals 11 rfl 57 rfl)
     have hAp := hAp.add (t := 59) (v := .int .i64 (f + 1)) (hT.vals 13 rfl 59 rfl)
     exact ovr hAp rfl (r_sliceL (hAp.get rfl) (hAp.get rfl) tU72 ti_80 bb) fun _ => Eq.refl _
    ·intro a w hT
     have hAp := hT.ag k [(0, .pointer (some d))] ⟨rfl, trivial⟩ (by kernel_rfl)
     exact ovr hAp rfl (r_move (hAp.get rfl)) fun _ => Eq.refl _
    ·intro a w hT
     have hAp := hT.ag k [(0, .pointer (some d))] ⟨rfl, trivial⟩ (by kernel_rfl)
     exact ovr hAp rfl (r_move (hAp.get rfl)) fun _ => Eq.refl _
    ·intro a w hT
     have hAp := hT.ag k [(7, .int .i64 f)] ⟨rfl, trivial⟩ (by kernel_rfl)
     exact ovr hAp rfl (r_move (hAp.get rfl)) fun _ => Eq.refl _
    ·intro a w hT
     have hAp := hT.ag k [(0, .pointer (some d))] ⟨rfl, trivial⟩ (by kernel_rfl)
     exact ovr hAp rfl (r_move (hAp.get rfl)) fun _ => Eq.refl _
    ·intro a w hT
     have hAp := hT.ag k [(7, .int .i64 f)] ⟨rfl, trivial⟩ (by kernel_rfl)
     exact ovr hAp rfl (r_move (hAp.get rfl)) fun _ => Eq.refl _
    ·intro a w hT
     have hAp := hT.ag k [] trivial (by kernel_rfl)
     have hAp := hAp.add (t := 58) (v := .int .i64 f) (hT.vals 12 rfl 58 rfl)
     exact ovr hAp rfl (r_addI (hAp.get rfl) rfl aL) fun _ => Eq.refl _
    ·intro bf z aP bg aQ
     have bi := bg [(0, .pointer (some d)), (7, .int .i64 f)] ⟨rfl, rfl, trivial⟩ (by kernel_rfl)
     obtain ⟨g, bj, bk⟩ := aQ 7 rfl 53 rfl
     have bl := bi.add bk
     have bo : bf.tmps.getD 60 undef = Sl.v (Sl.cut j 8 (f + 1).toNat j.n j.c) := aQ 14 rfl 60 rfl
     have r := bl.add bo
     have bY : Chg [] m z := aP
     have bp := bd z g aP bj
     refine oneF (c := 15) r rfl (by kernel_rfl) (constF ⟨fun _ _ _ h => h, fun _ _ _ h => h, fun _ _ _ h => h, fun _ _ _ h => h, fun _ _ _ h => h, fun _ _ _ h => h, trivial⟩) ⟨?_, ?_, ?_, ?_, ?_, ?_, trivial⟩ ?_
     ·intro a hT
      have hAp := hT.ag r [(0, .pointer (some d))] ⟨rfl, trivial⟩ (by kernel_rfl)
      exact opk_val hAp rfl (r_move (hAp.get rfl)) fun _ _ e => ⟨_, e, rfl, fun _ => Eq.refl _⟩
     ·intro a hT
      have hAp := hT.ag r [(0, .pointer (some d))] ⟨rfl, trivial⟩ (by kernel_rfl)
      exact opk_val hAp rfl (r_move (hAp.get rfl)) fun _ _ e => ⟨_, e, rfl, fun _ => Eq.refl _⟩
     ·intro a hT
      have hAp := hT.ag r [(7, .int .i64 f)] ⟨rfl, trivial⟩ (by kernel_rfl)
      exact opk_val hAp rfl (r_move (hAp.get rfl)) fun _ _ e => ⟨_, e, rfl, fun _ => Eq.refl _⟩
     ·intro a hT
      have hAp := hT.ag r [(0, .pointer (some d))] ⟨rfl, trivial⟩ (by kernel_rfl)
      exact opk_val hAp rfl (r_move (hAp.get rfl)) fun _ _ e => ⟨_, e, rfl, fun _ => Eq.refl _⟩
     ·intro a hT
      have hAp := hT.ag r [(7, .int .i64 f)] ⟨rfl, trivial⟩ (by kernel_rfl)
      exact opk_val hAp rfl (r_move (hAp.get rfl)) fun _ _ e => ⟨_, e, rfl, fun _ => Eq.refl _⟩
     ·intro a hT
      have hAp := hT.ag r [] trivial (by kernel_rfl)
      have hAp := hAp.add (t := 58) (v := .int .i64 f) (hT.vals 12 rfl 58 rfl)
      exact opk_val hAp rfl (r_addI (hAp.get rfl) rfl aL) fun _ _ e => ⟨_, e, rfl, fun _ => Eq.refl _⟩
     ·intro bZ hT
      have aM := hT.ag r [(0, .pointer (some d)), (7, .int .i64 f), (53, Sl.v g), (60, Sl.v (Sl.cut j 8 (f + 1).toNat j.n j.c))] ⟨rfl, rfl, rfl, rfl, trivial⟩ (by kernel_rfl)
      refine (opk_run aM rfl (fun _ _ hr => r_append (aM.get rfl) (aM.get rfl) hr) bp fun b0 b1 aI s bq b2 b3 bt => ?_)
      refine ⟨_, bq, ?_⟩
      obtain ⟨aa, rfl, bu⟩ := bt
      refine joinF s (by kernel_rfl) ⟨fun _ _ _ _ h => h, fun _ _ _ _ h => h, fun _ _ _ _ h => h, fun _ _ _ _ h => h, fun _ _ _ _ h => h, fun _ _ _ _ h => h, trivial⟩ ⟨?_, ?_, ?_, ?_, ?_, ?_, trivial⟩ ?_
      ·intro a w hT
       have hAp := hT.ag s [(0, .pointer (some d))] ⟨rfl, trivial⟩ (by kernel_rfl)
       exact ovr hAp rfl (r_move (hAp.get rfl)) fun _ => Eq.refl _
      ·intro a w hT
       have hAp := hT.ag s [(0, .pointer (some d))] ⟨rfl, trivial⟩ (by kernel_rfl)
       exact ovr hAp rfl (r_move (hAp.get rfl)) fun _ => Eq.refl _
      ·intro a w hT
       have hAp := hT.ag s [(7, .int .i64 f)] ⟨rfl, trivial⟩ (by kernel_rfl)
       exact ovr hAp rfl (r_move (hAp.get rfl)) fun _ => Eq.refl _
      ·intro a w hT
       have hAp := hT.ag s [(0, .pointer (some d))] ⟨rfl, trivial⟩ (by kernel_rfl)
       exact ovr hAp rfl (r_move (hAp.get rfl)) fun _ => Eq.refl _
      ·intro a w hT
       have hAp := hT.ag s [(7, .int .i64 f)] ⟨rfl, trivial⟩ (by kernel_rfl)
       exact ovr hAp rfl (r_move (hAp.get rfl)) fun _ => Eq.refl _
      ·intro a w hT
       have hAp := hT.ag s [] trivial (by kernel_rfl)
       have hAp := hAp.add (t := 58) (v := .int .i64 f) (hT.vals 12 rfl 58 rfl)
       exact ovr hAp rfl (r_addI (hAp.get rfl) rfl aL) fun _ => Eq.refl _
      ·intro bv ab bx bz bA
       have bB := bz [(61, Sl.v aa)] ⟨rfl, trivial⟩ (by kernel_rfl)
       have bC : bv.tmps.getD 46 undef = .pointer (some d) := bA 0 rfl 46 rfl
       have aN := bB.add bC
       have bD : Chg [] aI ab := bx
       have bF := bu ab    bD
       refine par (D := aq) (S := [16, 17]) (F := []) (V := VL [(16, fun v _ => v = .pointer (some d)), (17, fun v _ => v = .pointer (some (d.add 0)))]) aN (by kernel_rfl) ⟨fun _ _ _ _ h => h, fun _ _ _ _ h => h, trivial⟩ ⟨?_, ?_, trivial⟩ ?_
       ·intro a w hT
        have hAp := hT.ag aN [(46, .pointer (some d))] ⟨rfl, trivial⟩ (by kernel_rfl)
        exact ovr hAp rfl (r_nilCheck (hAp.get rfl)) fun _ => Eq.refl _
       ·intro a w hT
        have hAp := hT.ag aN [] trivial (by kernel_rfl)
        have hAp := hAp.add (t := 62) (v := .pointer (some d)) (hT.vals 16 rfl 62 rfl)
        exact ovr hAp rfl (r_fieldAddr (hAp.get rfl) Tryz.underlying74 rfl ti_72 (by decide)) fun _ => Eq.refl _
       ·intro bG ad bH bI bJ
        have bK := bI [(61, Sl.v aa)] ⟨rfl, trivial⟩ (by kernel_rfl)
        have bL : bG.tmps.getD 63 undef = .pointer (some (d.add 0)) := bJ 17 rfl 63 rfl
        have aO := bK.add bL
        have bM : Chg [] ab ad := bH
        have bN := bF ad    bM
        obtain ⟨af, ao, aJ, ap, bO, aR, bP, b4, bQ⟩ := bN
        refine one (D := aq) (i := 18) rfl (by kernel_rfl) (opk_store aO aR (r_store (vs := [Sl.v aa]) (((aO.get rfl)).trans (congrArg (fun a => Value.pointer (some a)) bO)) (aO.get rfl) rfl ti_72 aR (Nat.ble_eq_true_of_le bP) (ones_all _ rfl)) fun b5 ah bR bS bT => ?_)
        have bU := bQ ah bR bS
        refine PR_end (by kernel_rfl) ?_
        have bV := bT.kp [] rfl
        refine gK (bs := []) (N := []) bV (Chg.refl [] _) trivial (by simp) trivial (by simp) bU ?_
        refine tn <| gS <| gR <| gN <| ge <| tn <| gr ?_
        exact gz1
def ref06_D_Move.vc (d : Addr) (f : Int) (k : Int) (a : Int) (R : Value → World → Prop) (w : World) : Prop :=
CallK Tryz.prog 57 #[.pointer (some d), .int .i64 f] w [] (fun v w7 => ∃ (g : Option Addr), v = .pointer g ∧
CallK Tryz.prog 57 #[.pointer (some d), .int .i64 k] w7 [] (fun v m => ∃ (c : Option Addr), v = .pointer c ∧
((((Option.isNone g) = true) ∨ ((Option.isNone c) = true)) →
R (.int .i64 3) m) ∧
((((Option.isNone g) = false) ∧ ((Option.isNone c) = false)) →
∃ au : Addr, (g = some au) ∧
∃ (i : Int), (m.cell? ((au.add 2).add 0) = some (.int .i64 i)) ∧
∃ (j : Bool), (((¬ (i = 1))) → Calls Tryz.prog 79 #[.pointer c] m (Ret fun v w' => Ext m w' ∧ v = .bool j)) ∧
(∀ p : World, Ext m p →
∃ av : Addr, ((((¬ (i = 1)) ∧ (j = true))) → g = some av) ∧
∃ (q : Int), ((((¬ (i = 1)) ∧ (j = true))) → p.cell? ((av.add 2).add 0) = some (.int .i64 q)) ∧
∃ ax : Addr, ((((¬ (i = 1)) ∧ (j = true)) ∧ (q = 5)) → c = some ax) ∧
∃ (ag : Int), ((((¬ (i = 1)) ∧ (j = true)) ∧ (q = 5)) → p.cell? ((ax.add 2).add 0) = some (.int .i64 ag)) ∧
((((i = 1) ∨ (j = false)) ∨ ((q = 5) ∧ (ag ≠ 1))) →
R (.int .i64 4) p) ∧
((((¬ (i = 1)) ∧ (j = true)) ∧ ((¬ (q = 5)) ∨ (¬ (ag ≠ 1)))) →
CallK Tryz.prog 83 #[.pointer (some d), .int .i64 f, .int .i64 k] p [] (fun v r => ∃ (ah : Bool), v = .bool ah ∧
((ah = true) →
R (.int .i64 6) r) ∧
((ah = false) →
∃ ay : Addr, (((¬ (a < 0))) → c = some ay) ∧
∃ (az : Sl), (((¬ (a < 0))) → r.cell? (ay.add 7) = some (Sl.v az)) ∧
∃ ai : Sl → World → Prop, (((¬ (a < 0))) → Calls Tryz.prog 82 #[Sl.v az, .int .i64 f] r (Ret fun v w' => Ext r w' ∧ ∃ l : Sl, v = Sl.v l ∧ ai l w')) ∧
(∀ (l : Sl) (y : World), Ext r y → (((¬ (a < 0))) → ai l y) →
(((a < 0) ∨ ((l.n : Int) < a)) →
R (.int .i64 5) y) ∧
(((¬ (a < 0)) ∧ (¬ ((l.n : Int) < a))) →
CallK Tryz.prog 80 #[.pointer (some d), .int .i64 k] y [] (fun v a2 => ∃ (z : Int), v = .int .i64 z ∧
CallK Tryz.prog 26 #[.pointer (some d), .int .i64 f] a2 [] (fun v a3 => ∃ (aA : Int) (aB : Str) (aC : Str) (aD : Sl) (aG : Sl), v = .agg #[.int .i64 aA, .string (Bs aB), .string (Bs aC), Sl.v aD, Sl.v aG] ∧
CallK Tryz.prog 75 #[.agg #[.int .i64 aA, .string (Bs aB), .string (Bs aC), Sl.v aD, Sl.v aG]] a3 [] (fun v aj => ∃ (aa : Int), v = .int .i64 aa ∧
(I64 (z + aa)) ∧
((60 < (z + aa)) →
R (.int .i64 2) aj) ∧
((¬ (60 < (z + aa))) →
∃ aH : Addr, (g = some aH) ∧
∃ (aI : Int), (aj.cell? (aH.add 1) = some (.int .i64 aI)) ∧
CallK Tryz.prog 57 #[.pointer (some d), .int .i64 aI] aj [] (fun v aJ => ∃ (ak : Option Addr), v = .pointer ak ∧
∃ aK : Addr, (ak = some aK) ∧
∃ (aL : Sl), (aJ.cell? (aK.add 7) = some (Sl.v aL)) ∧
CallK Tryz.prog 82 #[Sl.v aL, .int .i64 f] aJ [] (fun v aM => ∃ (aN : Sl), v = Sl.v aN ∧
∃ aO : Addr, (ak = some aO) ∧
∃ (t al : Nat) (aP : TypeId) (am : List Value), (aO.add 7) = ⟨t, al, none⟩ ∧ Box aM t aP am ∧ al + 1 ≤ am.length ∧ (∀ b ∈ [], b ≠ t) ∧
(∀ ab : World, Chg [t] aM ab → Box ab t aP (putAt am al [Sl.v aN]) →
∃ aQ : Addr, (c = some aQ) ∧
∃ (aR : Sl), (ab.cell? (aQ.add 7) = some (Sl.v aR)) ∧
CallK Tryz.prog 81 #[Sl.v aR, .int .i64 a, .int .i64 f] ab [] (fun v aS => ∃ (aU : Sl), v = Sl.v aU ∧
∃ aV : Addr, (c = some aV) ∧
∃ (u an : Nat) (aX : TypeId) (ao : List Value), (aV.add 7) = ⟨u, an, none⟩ ∧ Box aS u aX ao ∧ an + 1 ≤ ao.length ∧ (∀ b ∈ [], b ≠ u) ∧
(∀ ad : World, Chg [u] aS ad → Box ad u aX (putAt ao an [Sl.v aU]) →
∃ aY : Addr, (g = some aY) ∧
∃ (x ap : Nat) (aZ : TypeId) (aq : List Value), (aY.add 1) = ⟨x, ap, none⟩ ∧ Box ad x aZ aq ∧ ap + 1 ≤ aq.length ∧ (∀ b ∈ [], b ≠ x) ∧
(∀ ar : World, Chg [x] ad ar → Box ar x aZ (putAt aq ap [.int .i64 k]) →
R (.int .i64 0) ar)))))))))))))))))))
theorem ref06_D_Move.ok (d : Addr) (f : Int) (k : Int) (a : Int) {R : Value → World → Prop} {w : World} (a4 : ref06_D_Move.vc d f k a R w) : Calls Tryz.prog 53 #[.pointer (some d), .int .i64 f, .int .i64 k, .int .i64 a] w (Ret R) := by
 refine go _ Tryz.func53 Tryz.ntmps53 a4 ?_
 refine gS <| gR <| gN <| ge <| tn <| gS <| gR ?_
 refine gM ?_
 refine gM ?_
 refine gC [] Tryz.func57 fun _ w7 => gE fun g => gQ ?_
 refine gM ?_
 refine gM ?_
 refine gC [] Tryz.func57 fun _ m => gE fun c => gQ ?_
 refine gN ?_
 refine gN <| ge <| tn <| gS <| gb <| gS <| gR ?_
 refine gM ?_
 refine g2 (fun af a0 => r_pnil (o := g) af a0 tU76) ?_
 refine gM ?_
 refine G1 r_move ?_
 refine G2 (fun af a0 => r_pnil (o := c) af a0 tU76) ?_
 refine gpo ?_
 refine gN <| ge <| tn ?_
 refine gi (fun h => ((oT h).imp (fun h => h) (fun h => h))) (fun h => ⟨(oF h).1, (oF h).2⟩) ?_ ?_
 ·refine gS <| gR <| gN <| ge <| tn <| gr <| br <| tr ?_
  exact gz1
 ·refine gS <| gR <| gM ?_
  refine gnP fun au => ?_
  refine gF 2 Tryz.underlying80 ti_25 ?_
  refine gF 0 Tryz.underlying25 ti_3 ?_
  refine gE fun i => gL tU3 ?_
  refine g2 r_eql ?_
  refine gM ?_
  refine G1 r_move ?_
  refine gE fun j => GC Tryz.func79 (fun hg => (dF (g_f hg))) fun p => ?_
  refine G1 r_not ?_
  refine gpo ?_
  refine gM ?_
  refine G1 r_move ?_
  refine GnP (fun hg => ⟨(dF (oF (g_f hg)).1), (nF (oF (g_f hg)).2)⟩) fun av => ?_
  refine GF 2 Tryz.underlying80 ti_25 ?_
  refine GF 0 Tryz.underlying25 ti_3 ?_
  refine gE fun q => GLd tU3 (fun hg => ⟨(dF (oF (g_f hg)).1), (nF (oF (g_f hg)).2)⟩) ?_
  refine G2 r_eql ?_
  refine G1 r_move ?_
  refine G1 r_move ?_
  refine GnP (fun hg => ⟨⟨(dF (oF (g_f (g_up hg))).1), (nF (oF (g_f (g_up hg))).2)⟩, (dT (g_t hg))⟩) fun ax => ?_
  refine GF 2 Tryz.underlying80 ti_25 ?_
  refine GF 0 Tryz.underlying25 ti_3 ?_
  refine gE fun ag => GLd tU3 (fun hg => ⟨⟨(dF (oF (g_f (g_up hg))).1), (nF (oF (g_f (g_up hg))).2)⟩, (dT (g_t hg))⟩) ?_
  refine G2 r_neq ?_
  refine Gpa ?_
  refine gpo ?_
  refine gN <| ge <| tn ?_
  refine gi (fun h => ((oT h).imp (fun h => ((oT h).imp (fun h => (dT h)) (fun h => (nT h)))) (fun h => ⟨(dT (aT h).1), (dT (aT h).2)⟩))) (fun h => ⟨⟨(dF (oF (oF h).1).1), (nF (oF (oF h).1).2)⟩, ((aF (oF h).2).imp (fun h => (dF h)) (fun h => (dF h)))⟩) ?_ ?_
  ·refine gS <| gR <| gN <| ge <| tn <| gr <| br <| tr ?_
   exact gz1
  ·refine gS <| gR <| gM ?_
   refine gM ?_
   refine gM ?_
   refine gC [] Tryz.func83 fun _ r => gE fun ah => gQ ?_
   refine gN <| ge <| tn ?_
   refine gi id id ?_ ?_
   ·refine gS <| gR <| gN <| ge <| tn <| gr <| br <| tr ?_
    exact gz1
   ·refine gS <| gR <| gM ?_
    refine g2 r_lss ?_
    refine gM ?_
    refine G1 r_move ?_
    refine G1 r_move ?_
    refine GnP (fun hg => (dF (g_f hg))) fun ay => ?_
    refine GF 7 Tryz.underlying80 ti_78 ?_
    refine gE fun az => GLd tU78 (fun hg => (dF (g_f hg))) ?_
    refine G1 r_move ?_
    refine gE fun ai => gA fun hc => GM (α := Sl) (fun s => Sl.v s) (fun s w => ai s w) Tryz.func82 (fun hg => hc (dF (g_f hg))) (fun _ _ h => h) (fun hv s w hE h => hv s w hE (fun hp => h (g_mkf rfl (decide_eq_false hp)))) fun l y => ?_
    refine G1 (fun af => r_len af tU78) ?_
    refine G2 r_gtr ?_
    refine gpo ?_
    refine gN <| ge <| tn ?_
    refine gi (fun h => ((oT h).imp (fun h => (dT h)) (fun h => (dT h)))) (fun h => ⟨(dF (oF h).1), (dF (oF h).2)⟩) ?_ ?_
    ·refine gS <| gR <| gN <| ge <| tn <| gr <| br <| tr ?_
     exact gz1
    ·refine gS <| gR <| gM ?_
     refine gM ?_
     refine gC [] Tryz.func80 fun _ a2 => gE fun z => gQ ?_
     refine gM ?_
     refine gM ?_
     refine gC [] Tryz.func26 fun _ a3 => gE fun aA => gE fun aB => gE fun aC => gE fun aD => gE fun aG => gQ ?_
     refine gC [] Tryz.func75 fun _ aj => gE fun aa => gQ ?_
     refine g2s r_addI ?_
     refine g2 r_gtr ?_
     refine gN <| ge <| tn ?_
     refine gi dT dF ?_ ?_
     ·refine gS <| gR <| gN <| ge <| tn <| gr <| br <| tr ?_
      exact gz1
     ·refine gk <| bn <| tn <| gS <| gR <| gM ?_
      refine gM ?_
      refine gnP fun aH => ?_
      refine gF 1 Tryz.underlying80 ti_3 ?_
      refine gE fun aI => gL tU3 ?_
      refine gC [] Tryz.func57 fun _ aJ => gE fun ak => gQ ?_
      refine gN <| ge <| tn <| gS <| gR ?_
      refine gM ?_
      refine gM ?_
      refine gnP fun aK => ?_
      refine gF 7 Tryz.underlying80 ti_78 ?_
      refine gE fun aL => gL tU78 ?_
      refine gM ?_
      refine gC [] Tryz.func82 fun _ aM => gE fun aN => gQ ?_
      refine gnP fun aO => ?_
      refine gF 7 Tryz.underlying80 ti_78 ?_
      refine wx [] ti_78 fun t al aP am ab => ge <| tn <| gS <| gR ?_
      refine gM ?_
      refine gM ?_
      refine gnP fun aQ => ?_
      refine gF 7 Tryz.underlying80 ti_78 ?_
      refine gE fun aR => gL tU78 ?_
      refine gM ?_
      refine gM ?_
      refine gC [] Tryz.func81 fun _ aS => gE fun aU => gQ ?_
      refine gnP fun aV => ?_
      refine gF 7 Tryz.underlying80 ti_78 ?_
      refine wx [] ti_78 fun u an aX ao ad => ge <| tn <| gS <| gR ?_
      refine gM ?_
      refine gM ?_
      refine gnP fun aY => ?_
      refine gF 1 Tryz.underlying80 ti_3 ?_
      refine wx [] ti_3 fun x ap aZ aq ar => ge <| tn <| gS <| gR ?_
      refine gN <| ge <| tn <| gr ?_
      exact gz1
def ref06_D_Set.vc (k : Addr) (l : Int) (d : Str) (c : Str) (R : Value → World → Prop) (w : World) : Prop :=
CallK Tryz.prog 57 #[.pointer (some k), .int .i64 l] w [] (fun v f => ∃ (a : Option Addr), v = .pointer a ∧
(((Option.isNone a) = true) →
R (.int .i64 3) f) ∧
(((Option.isNone a) = false) →
∃ x : Addr, (a = some x) ∧
∃ (m : Int), (f.cell? ((x.add 2).add 0) = some (.int .i64 m)) ∧
((m ≠ 2) →
R (.int .i64 4) f) ∧
((¬ (m ≠ 2)) →
∃ y : Addr, (a = some y) ∧
∃ (z : Sl), (f.cell? ((y.add 2).add 3) = some (Sl.v z)) ∧
CallK Tryz.prog 84 #[Sl.v z, .string (Bs d)] f [] (fun v aj => ∃ (ak : Str) (p : Bool), v = .tuple #[.string (Bs ak), .bool p] ∧
CallK Tryz.prog 85 #[.string (Bs d)] aj [] (fun v g => ∃ (q : Bool), v = .bool q ∧
((q = false) →
R (.int .i64 8) g) ∧
((q = true) →
∃ aa : Addr, (((¬ (4096 < (c.length : Int)))) → a = some aa) ∧
∃ (r : Sl), (((¬ (4096 < (c.length : Int)))) → g.cell? ((aa.add 2).add 3) = some (Sl.v r)) ∧
(((4096 < (c.length : Int)) ∨ ((12 ≤ (r.n : Int)) ∧ (p = false))) →
R (.int .i64 2) g) ∧
(((¬ (4096 < (c.length : Int))) ∧ ((¬ (12 ≤ (r.n : Int))) ∨ (p = true))) →
∃ ab : Addr, (a = some ab) ∧
∃ (ad : Sl), (g.cell? ((ab.add 2).add 3) = some (Sl.v ad)) ∧
CallK Tryz.prog 86 #[Sl.v ad, .string (Bs d), .string (Bs c)] g [] (fun v af => ∃ (ag : Sl), v = Sl.v ag ∧
∃ ah : Addr, (a = some ah) ∧
∃ (i s : Nat) (ai : TypeId) (t : List Value), ((ah.add 2).add 3) = ⟨i, s, none⟩ ∧ Box af i ai t ∧ s + 1 ≤ t.length ∧ (∀ b ∈ [], b ≠ i) ∧
(∀ u : World, Chg [i] af u → Box u i ai (putAt t s [Sl.v ag]) →
R (.int .i64 0) u)))))))))
theorem ref06_D_Set.ok (k : Addr) (l : Int) (d : Str) (c : Str) {R : Value → World → Prop} {w : World} (al : ref06_D_Set.vc k l d c R w) : Calls Tryz.prog 54 #[.pointer (some k), .int .i64 l, .string (Bs d), .string (Bs c)] w (Ret R) := by
 refine go _ Tryz.func54 Tryz.ntmps54 al ?_
 refine gS <| gR <| gN <| ge <| tn <| gS <| gR ?_
 refine gM ?_
 refine gM ?_
 refine gC [] Tryz.func57 fun _ f => gE fun a => gQ ?_
 refine gN <| ge <| tn <| gS <| gS <| gR ?_
 refine gM ?_
 refine g2 (fun j am => r_pnil (o := a) j am tU76) <| ge <| tn ?_
 refine gi id id ?_ ?_
 ·refine gS <| gR <| gN <| ge <| tn <| gr <| tr ?_
  exact gz1
 ·refine gk <| tn <| gS <| gS <| gR <| gM ?_
  refine gnP fun x => ?_
  refine gF 2 Tryz.underlying80 ti_25 ?_
  refine gF 0 Tryz.underlying25 ti_3 ?_
  refine gE fun m => gL tU3 ?_
  refine g2 r_neq <| ge <| tn ?_
  refine gi dT dF ?_ ?_
  ·refine gS <| gR <| gN <| ge <| tn <| gr <| tr ?_
   exact gz1
  ·refine gk <| tn <| gS <| gR <| gM ?_
   refine gnP fun y => ?_
   refine gF 2 Tryz.underlying80 ti_25 ?_
   refine gF 3 Tryz.underlying25 ti_22 ?_
   refine gE fun z => gL tU22 ?_
   refine gM ?_
   refine gC [] Tryz.func84 fun _ aj => gE fun ak => gE fun p => gQ ?_
   refine gM ?_
   refine gx1 ?_
   refine gx1 ?_
   refine gN ?_
   refine gN <| ge <| tn <| gS <| gb <| gS <| gR ?_
   refine gM ?_
   refine gC [] Tryz.func85 fun _ g => gE fun q => gQ ?_
   refine g1 r_not ?_
   refine gN <| ge <| tn ?_
   refine gi nT nF ?_ ?_
   ·refine gS <| gR <| gN <| ge <| tn <| gr <| br <| tr ?_
    exact gz1
   ·refine gS <| gR <| gM ?_
    refine g1 (fun j => r_slen j tU9) ?_
    refine g2 r_gtr ?_
    refine gM ?_
    refine G1 r_move ?_
    refine GnP (fun hg => (dF (g_f hg))) fun aa => ?_
    refine GF 2 Tryz.underlying80 ti_25 ?_
    refine GF 3 Tryz.underlying25 ti_22 ?_
    refine gE fun r => GLd tU22 (fun hg => (dF (g_f hg))) ?_
    refine G1 (fun j => r_len j tU22) ?_
    refine G2 r_geq ?_
    refine G1 r_move ?_
    refine G1 r_move ?_
    refine G1 r_not ?_
    refine Gpa ?_
    refine gpo ?_
    refine gN <| ge <| tn ?_
    refine gi (fun h => ((oT h).imp (fun h => (dT h)) (fun h => ⟨(dT (aT h).1), (nT (aT h).2)⟩))) (fun h => ⟨(dF (oF h).1), ((aF (oF h).2).imp (fun h => (dF h)) (fun h => (nF h)))⟩) ?_ ?_
    ·refine gS <| gR <| gN <| ge <| tn <| gr <| br <| tr ?_
     exact gz1
    ·refine gk <| bn <| tn <| gS <| gR <| gM ?_
     refine gM ?_
     refine gnP fun ab => ?_
     refine gF 2 Tryz.underlying80 ti_25 ?_
     refine gF 3 Tryz.underlying25 ti_22 ?_
     refine gE fun ad => gL tU22 ?_
     refine gM ?_
     refine gM ?_
     refine gC [] Tryz.func86 fun _ af => gE fun ag => gQ ?_
     refine gnP fun ah => ?_
     refine gF 2 Tryz.underlying80 ti_25 ?_
     refine gF 3 Tryz.underlying25 ti_22 ?_
     refine wx [] ti_22 fun i s ai t u => ge <| tn <| gS <| gR ?_
     refine gN <| ge <| tn <| gr ?_
     exact gz1
def ref06_D_Unset.vc (g : Addr) (h : Int) (f : Str) (R : Value → World → Prop) (w : World) : Prop :=
CallK Tryz.prog 57 #[.pointer (some g), .int .i64 h] w [] (fun v c => ∃ (a : Option Addr), v = .pointer a ∧
(((Option.isNone a) = true) →
R (.int .i64 3) c) ∧
(((Option.isNone a) = false) →
∃ p : Addr, (a = some p) ∧
∃ (i : Int), (c.cell? ((p.add 2).add 0) = some (.int .i64 i)) ∧
((i ≠ 2) →
R (.int .i64 4) c) ∧
((¬ (i ≠ 2)) →
∃ q : Addr, (a = some q) ∧
∃ (r : Sl), (c.cell? ((q.add 2).add 3) = some (Sl.v r)) ∧
CallK Tryz.prog 84 #[Sl.v r, .string (Bs f)] c [] (fun v j => ∃ (aa : Str) (k : Bool), v = .tuple #[.string (Bs aa), .bool k] ∧
((k = false) →
R (.int .i64 8) j) ∧
((k = true) →
∃ s : Addr, (a = some s) ∧
∃ (t : Sl), (j.cell? ((s.add 2).add 3) = some (Sl.v t)) ∧
CallK Tryz.prog 87 #[Sl.v t, .string (Bs f)] j [] (fun v u => ∃ (x : Sl), v = Sl.v x ∧
∃ y : Addr, (a = some y) ∧
∃ (d l : Nat) (z : TypeId) (m : List Value), ((y.add 2).add 3) = ⟨d, l, none⟩ ∧ Box u d z m ∧ l + 1 ≤ m.length ∧ (∀ b ∈ [], b ≠ d) ∧
(∀ n : World, Chg [d] u n → Box n d z (putAt m l [Sl.v x]) →
R (.int .i64 0) n)))))))
theorem ref06_D_Unset.ok (g : Addr) (h : Int) (f : Str) {R : Value → World → Prop} {w : World} (ab : ref06_D_Unset.vc g h f R w) : Calls Tryz.prog 55 #[.pointer (some g), .int .i64 h, .string (Bs f)] w (Ret R) := by
 refine go _ Tryz.func55 Tryz.ntmps55 ab ?_
 refine gS <| gR <| gN <| ge <| tn <| gS <| gR ?_
 refine gM ?_
 refine gM ?_
 refine gC [] Tryz.func57 fun _ c => gE fun a => gQ ?_
 refine gN <| ge <| tn <| gS <| gS <| gR ?_
 refine gM ?_
 refine g2 (fun ad af => r_pnil (o := a) ad af tU76) <| ge <| tn ?_
 refine gi id id ?_ ?_
 ·refine gS <| gR <| gN <| ge <| tn <| gr <| tr ?_
  exact gz1
 ·refine gk <| tn <| gS <| gS <| gR <| gM ?_
  refine gnP fun p => ?_
  refine gF 2 Tryz.underlying80 ti_25 ?_
  refine gF 0 Tryz.underlying25 ti_3 ?_
  refine gE fun i => gL tU3 ?_
  refine g2 r_neq <| ge <| tn ?_
  refine gi dT dF ?_ ?_
  ·refine gS <| gR <| gN <| ge <| tn <| gr <| tr ?_
   exact gz1
  ·refine gk <| tn <| gS <| gS <| gR <| gM ?_
   refine gnP fun q => ?_
   refine gF 2 Tryz.underlying80 ti_25 ?_
   refine gF 3 Tryz.underlying25 ti_22 ?_
   refine gE fun r => gL tU22 ?_
   refine gM ?_
   refine gC [] Tryz.func84 fun _ j => gE fun aa => gE fun k => gQ ?_
   refine gM ?_
   refine gx1 ?_
   refine gx1 ?_
   refine gN ?_
   refine gN <| ge <| tn <| gS <| gR ?_
   refine gM ?_
   refine g1 r_not <| ge <| tn ?_
   refine gi nT nF ?_ ?_
   ·refine gS <| gR <| gN <| ge <| tn <| gr <| tr ?_
    exact gz1
   ·refine gk <| tn <| gS <| gR <| gM ?_
    refine gM ?_
    refine gnP fun s => ?_
    refine gF 2 Tryz.underlying80 ti_25 ?_
    refine gF 3 Tryz.underlying25 ti_22 ?_
    refine gE fun t => gL tU22 ?_
    refine gM ?_
    refine gC [] Tryz.func87 fun _ u => gE fun x => gQ ?_
    refine gnP fun y => ?_
    refine gF 2 Tryz.underlying80 ti_25 ?_
    refine gF 3 Tryz.underlying25 ti_22 ?_
    refine wx [] ti_22 fun d l z m n => ge <| tn <| gS <| gR ?_
    refine gN <| ge <| tn <| gr ?_
    exact gz1
def ref06_D_Text.vc (i : Addr) (j : Int) (d : Str) (R : Value → World → Prop) (w : World) : Prop :=
CallK Tryz.prog 57 #[.pointer (some i), .int .i64 j] w [] (fun v a => ∃ (c : Option Addr), v = .pointer c ∧
(((Option.isNone c) = true) →
R (.int .i64 3) a) ∧
(((Option.isNone c) = false) →
∃ q : Addr, (c = some q) ∧
∃ (f : Int), (a.cell? ((q.add 2).add 0) = some (.int .i64 f)) ∧
∃ r : Addr, (((f ≠ 3)) → c = some r) ∧
∃ (k : Int), (((f ≠ 3)) → a.cell? ((r.add 2).add 0) = some (.int .i64 k)) ∧
(((f ≠ 3) ∧ (k ≠ 4)) →
R (.int .i64 4) a) ∧
(((¬ (f ≠ 3)) ∨ (¬ (k ≠ 4))) →
∃ s : Addr, (c = some s) ∧
∃ (l : Int), (a.cell? ((s.add 2).add 0) = some (.int .i64 l)) ∧
(((l = 3) ∧ (d = ([] : Str))) →
R (.int .i64 1) a) ∧
(((¬ (l = 3)) ∨ (¬ (d = ([] : Str)))) →
((4096 < (d.length : Int)) →
R (.int .i64 2) a) ∧
((¬ (4096 < (d.length : Int))) →
∃ t : Addr, (c = some t) ∧
∃ (g m : Nat) (u : TypeId) (n : List Value), ((t.add 2).add 2) = ⟨g, m, none⟩ ∧ Box a g u n ∧ m + 1 ≤ n.length ∧ (∀ b ∈ [], b ≠ g) ∧
(∀ p : World, Chg [g] a p → Box p g u (putAt n m [.string (Bs d)]) →
R (.int .i64 0) p))))))
theorem ref06_D_Text.ok (i : Addr) (j : Int) (d : Str) {R : Value → World → Prop} {w : World} (y : ref06_D_Text.vc i j d R w) : Calls Tryz.prog 56 #[.pointer (some i), .int .i64 j, .string (Bs d)] w (Ret R) := by
 refine go _ Tryz.func56 Tryz.ntmps56 y ?_
 refine gS <| gR <| gN <| ge <| tn <| gS <| gR ?_
 refine gM ?_
 refine gM ?_
 refine gC [] Tryz.func57 fun _ a => gE fun c => gQ ?_
 refine gN <| ge <| tn <| gS <| gb <| gS <| gR ?_
 refine gM ?_
 refine g2 (fun x z => r_pnil (o := c) x z tU76) ?_
 refine gN <| ge <| tn ?_
 refine gi id id ?_ ?_
 ·refine gS <| gR <| gN <| ge <| tn <| gr <| br <| tr ?_
  exact gz1
 ·refine gS <| gR <| gM ?_
  refine gnP fun q => ?_
  refine gF 2 Tryz.underlying80 ti_25 ?_
  refine gF 0 Tryz.underlying25 ti_3 ?_
  refine gE fun f => gL tU3 ?_
  refine g2 r_neq ?_
  refine gM ?_
  refine G1 r_move ?_
  refine GnP (fun hg => (dT (g_t hg))) fun r => ?_
  refine GF 2 Tryz.underlying80 ti_25 ?_
  refine GF 0 Tryz.underlying25 ti_3 ?_
  refine gE fun k => GLd tU3 (fun hg => (dT (g_t hg))) ?_
  refine G2 r_neq ?_
  refine gpa ?_
  refine gN <| ge <| tn ?_
  refine gi (fun h => ⟨(dT (aT h).1), (dT (aT h).2)⟩) (fun h => ((aF h).imp (fun h => (dF h)) (fun h => (dF h)))) ?_ ?_
  ·refine gS <| gR <| gN <| ge <| tn <| gr <| br <| tr ?_
   exact gz1
  ·refine gS <| gR <| gM ?_
   refine gnP fun s => ?_
   refine gF 2 Tryz.underlying80 ti_25 ?_
   refine gF 0 Tryz.underlying25 ti_3 ?_
   refine gE fun l => gL tU3 ?_
   refine g2 r_eql ?_
   refine gM ?_
   refine G1 r_move ?_
   refine G2 r_seql ?_
   refine gpa ?_
   refine gN <| ge <| tn ?_
   refine gi (fun h => ⟨(dT (aT h).1), (dT (aT h).2)⟩) (fun h => ((aF h).imp (fun h => (dF h)) (fun h => (dF h)))) ?_ ?_
   ·refine gS <| gR <| gN <| ge <| tn <| gr <| br <| tr ?_
    exact gz1
   ·refine gS <| gR <| gM ?_
    refine g1 (fun x => r_slen x tU9) ?_
    refine g2 r_gtr ?_
    refine gN <| ge <| tn ?_
    refine gi dT dF ?_ ?_
    ·refine gS <| gR <| gN <| ge <| tn <| gr <| br <| tr ?_
     exact gz1
    ·refine gk <| bn <| tn <| gS <| gR <| gM ?_
     refine gM ?_
     refine gnP fun t => ?_
     refine gF 2 Tryz.underlying80 ti_25 ?_
     refine gF 2 Tryz.underlying25 ti_9 ?_
     refine wx [] ti_9 fun g m u n p => ge <| tn <| gS <| gR ?_
     refine gN <| ge <| tn <| gr ?_
     exact gz1
def ref06_D_N.vc (c : Addr) (d : Int) (R : Value → World → Prop) (w : World) : Prop :=
CallK Tryz.prog 77 #[.pointer (some c), .int .i64 d] w [] (fun v f => ∃ (b : Int), v = .int .i64 b ∧
((b < 0) →
R (.pointer none) f) ∧
((¬ (b < 0)) →
∃ (g : Sl), (f.cell? (c.add 0) = some (Sl.v g)) ∧
((0 : Int) ≤ b ∧ b < (g.n : Int)) ∧ ∃ h : Addr, g.a = some h ∧
R (.pointer (some (h.add (b.toNat * 8)))) f))
theorem ref06_D_N.ok (c : Addr) (d : Int) {R : Value → World → Prop} {w : World} (i : ref06_D_N.vc c d R w) : Calls Tryz.prog 57 #[.pointer (some c), .int .i64 d] w (Ret R) := by
 refine go _ Tryz.func57 Tryz.ntmps57 i ?_
 refine gS <| gR <| gN <| ge <| tn <| gS <| gR ?_
 refine gM ?_
 refine gM ?_
 refine gC [] Tryz.func77 fun _ f => gE fun b => gQ ?_
 refine gN <| ge <| tn <| gS <| gS <| gR ?_
 refine gM ?_
 refine g2 r_lss <| ge <| tn ?_
 refine gi dT dF ?_ ?_
 ·refine gS <| gR <| gN <| ge <| tn <| gr <| tr ?_
  exact gz1
 ·refine gk <| tn <| gS <| gR <| gM ?_
  refine g1 r_nilCheck ?_
  refine gF 0 Tryz.underlying74 ti_72 ?_
  refine gE fun g => gL tU72 ?_
  refine gM ?_
  refine gI1 tU72 ti_80 fun h => ?_
  refine gN <| ge <| tn <| gr ?_
  exact gz1
def ref06_Bare.vc (f : Int) (g : Str) (j : Str) (o : Sl) (y : Sl) (R : Value → World → Prop) (w : World) : Prop :=
∀ (p : World) (b : Nat) (d : Nat), New w b p → New w d p → b ≠ d → Chg [] w p →
RunK Tryz.prog (Builtin.append_ #[22, 22] 22 #[Sl.v Sl.nil, Sl.v o]) p [b, d] (fun v z => ∃ (k : Sl), v = Sl.v k ∧
∀ (q : World), Chg [] z q →
∀ (u : World), Chg [d] q u →
R (.agg #[.int .i64 f, .string (Bs g), .string (Bs j), Sl.v k, Sl.v Sl.nil]) u)
theorem ref06_Bare.ok (f : Int) (g : Str) (j : Str) (o : Sl) (y : Sl) {R : Value → World → Prop} {w : World} (ap : ref06_Bare.vc f g j o y R w) : Calls Tryz.prog 58 #[.agg #[.int .i64 f, .string (Bs g), .string (Bs j), Sl.v o, Sl.v y]] w (Ret R) := by
 refine go _ Tryz.func58 Tryz.ntmps58 ap ?_
 refine gS <| gR <| nb fun w3 b => ?_
 refine na ti_25 fun w5 d => ge <| tn <| gS ?_
 intro a8 m aq
 have l := m.ag
 have ar := m.bx 1 rfl
 have au := m.bx 0 rfl
 have av := m.chg
 have ax := m.new b (by simp)
 have ay := m.new d (by simp)
 have aj : b ≠ d := m.ne 1 0
 let aa : List (List Nat) := [[], [0], [], [2], [], [4], [], [6], [6, 7], [0, 1, 2, 3, 4, 5, 6, 7, 8], [0, 1, 2, 3, 4, 5, 6, 7, 8, 9]]
 refine draw' (by kernel_rfl) fun p r => ?_
 have s := ar.ext r
 have az := au.ext r
 have aA := av.more r
 have aB := ax.up r.size
 have aC := ay.up r.size
 have aD := aq p b d aB aC aj aA
 refine startF (D := aa) (Fs := [0, 1, 2, 3, 4, 5, 6, 7]) (Ef := [(0, fun v _ => v = pB b 0), (1, fun v _ => v = .int .i64 f), (2, fun v _ => v = pB b 1), (3, fun v _ => v = .string (Bs g)), (4, fun v _ => v = pB b 2), (5, fun v _ => v = .string (Bs j)), (6, fun v _ => v = pB b 3), (7, fun v _ => v = Sl.v o)]) (by kernel_rfl) ?_
 refine oneF (c := 8) l rfl (by kernel_rfl) (constF ⟨fun _ _ _ h => h, fun _ _ _ h => h, fun _ _ _ h => h, fun _ _ _ h => h, fun _ _ _ h => h, fun _ _ _ h => h, fun _ _ _ h => h, fun _ _ _ h => h, trivial⟩) ⟨?_, ?_, ?_, ?_, ?_, ?_, ?_, ?_, trivial⟩ ?_
 ·intro a hT
  have hAp := hT.ag l [(1, pB b 0)] ⟨rfl, trivial⟩ (by kernel_rfl)
  exact opk_val hAp rfl (r_fieldAddr (hAp.get rfl) Tryz.underlying25 rfl ti_3 (by decide)) fun _ _ e => ⟨_, e, rfl, fun _ => Eq.refl _⟩
 ·intro a hT
  have hAp := hT.ag l [] trivial (by kernel_rfl)
  have hAp := hAp.add (t := 3) (v := pB b 0) (hT.vals 0 rfl 3 rfl)
  exact opk_val hAp rfl (r_load1 tU3 rfl (hAp.get rfl) ((s.ext hT.chg).cell 0 _ rfl)) fun _ _ e => ⟨_, e, rfl, fun _ => Eq.refl _⟩
 ·intro a hT
  have hAp := hT.ag l [(1, pB b 0)] ⟨rfl, trivial⟩ (by kernel_rfl)
  exact opk_val hAp rfl (r_fieldAddr (hAp.get rfl) Tryz.underlying25 rfl ti_9 (by decide)) fun _ _ e => ⟨_, e, rfl, fun _ => Eq.refl _⟩
 ·intro a hT
  have hAp := hT.ag l [] trivial (by kernel_rfl)
  have hAp := hAp.add (t := 5) (v := pB b 1) (hT.vals 2 rfl 5 rfl)
  exact opk_val hAp rfl (r_load1 tU9 rfl (hAp.get rfl) ((s.ext hT.chg).cell 1 _ rfl)) fun _ _ e => ⟨_, e, rfl, fun _ => Eq.refl _⟩
 ·intro a hT
  have hAp := hT.ag l [(1, pB b 0)] ⟨rfl, trivial⟩ (by kernel_rfl)
  exact opk_val hAp rfl (r_fieldAddr (hAp.get rfl) Tryz.underlying25 rfl ti_9 (by decide)) fun _ _ e => ⟨_, e, rfl, fun _ => Eq.refl _⟩
 ·intro a hT
  have hAp := hT.ag l [] trivial (by kernel_rfl)
  have hAp := hAp.add (t := 7) (v := pB b 2) (hT.vals 4 rfl 7 rfl)
  exact opk_val hAp rfl (r_load1 tU9 rfl (hAp.get rfl) ((s.ext hT.chg).cell 2 _ rfl)) fun _ _ e => ⟨_, e, rfl, fun _ => Eq.refl _⟩
 ·intro a hT
  have hAp := hT.ag l [(1, pB b 0)] ⟨rfl, trivial⟩ (by kernel_rfl)
  exact opk_val hAp rfl (r_fieldAddr (hAp.get rfl) Tryz.underlying25 rfl ti_22 (by decide)) fun _ _ e => ⟨_, e, rfl, fun _ => Eq.refl _⟩
 ·intro a hT
  have hAp := hT.ag l [] trivial (by kernel_rfl)
  have hAp := hAp.add (t := 9) (v := pB b 3) (hT.vals 6 rfl 9 rfl)
  exact opk_val hAp rfl (r_load1 tU22 rfl (hAp.get rfl) ((s.ext hT.chg).cell 3 _ rfl)) fun _ _ e => ⟨_, e, rfl, fun _ => Eq.refl _⟩
 ·intro aG hT
  have aH := hT.ag l [(1, pB b 0), (2, pB d 0)] ⟨rfl, rfl, trivial⟩ (by kernel_rfl)
  have aI : aG.tmps.getD 10 undef = Sl.v o := hT.vals 7 rfl 10 rfl
  have ak := aH.add aI
  refine (opk_run ak rfl (fun _ _ hr => r_append rfl (ak.get rfl) hr) aD fun bl bo z aJ aK al bp aL => ?_)
  refine ⟨_, aK, ?_⟩
  obtain ⟨k, rfl, aM⟩ := aL
  have x := s.kept al (.head _)
  have aN := az.kept al (.tail _ (.head _))
  refine PRF_drop (X := [6, 7]) (Fs' := [0, 1, 2, 3, 4, 5]) aJ (by kernel_rfl) fun bq aO bt => ?_
  have n := aO [(1, pB b 0), (2, pB d 0), (11, Sl.v k)] ⟨rfl, rfl, rfl, trivial⟩ (by kernel_rfl)
  refine joinF n (by kernel_rfl) ⟨fun _ _ _ _ h => h, fun _ _ _ _ h => h, fun _ _ _ _ h => h, fun _ _ _ _ h => h, fun _ _ _ _ h => h, fun _ _ _ _ h => h, trivial⟩ ⟨?_, ?_, ?_, ?_, ?_, ?_, trivial⟩ ?_
  ·intro a w hT
   have hAp := hT.ag n [(1, pB b 0)] ⟨rfl, trivial⟩ (by kernel_rfl)
   exact ovr hAp rfl (r_fieldAddr (hAp.get rfl) Tryz.underlying25 rfl ti_3 (by decide)) fun _ => Eq.refl _
  ·intro a w hT
   have hAp := hT.ag n [] trivial (by kernel_rfl)
   have hAp := hAp.add (t := 3) (v := pB b 0) (hT.vals 0 rfl 3 rfl)
   exact ovr hAp rfl (r_load1 tU3 rfl (hAp.get rfl) ((x.ext hT.chg).cell 0 _ rfl)) fun _ => Eq.refl _
  ·intro a w hT
   have hAp := hT.ag n [(1, pB b 0)] ⟨rfl, trivial⟩ (by kernel_rfl)
   exact ovr hAp rfl (r_fieldAddr (hAp.get rfl) Tryz.underlying25 rfl ti_9 (by decide)) fun _ => Eq.refl _
  ·intro a w hT
   have hAp := hT.ag n [] trivial (by kernel_rfl)
   have hAp := hAp.add (t := 5) (v := pB b 1) (hT.vals 2 rfl 5 rfl)
   exact ovr hAp rfl (r_load1 tU9 rfl (hAp.get rfl) ((x.ext hT.chg).cell 1 _ rfl)) fun _ => Eq.refl _
  ·intro a w hT
   have hAp := hT.ag n [(1, pB b 0)] ⟨rfl, trivial⟩ (by kernel_rfl)
   exact ovr hAp rfl (r_fieldAddr (hAp.get rfl) Tryz.underlying25 rfl ti_9 (by decide)) fun _ => Eq.refl _
  ·intro a w hT
   have hAp := hT.ag n [] trivial (by kernel_rfl)
   have hAp := hAp.add (t := 7) (v := pB b 2) (hT.vals 4 rfl 7 rfl)
   exact ovr hAp rfl (r_load1 tU9 rfl (hAp.get rfl) ((x.ext hT.chg).cell 2 _ rfl)) fun _ => Eq.refl _
  ·intro ab q ad aP af
   have aQ := aP [(2, pB d 0), (11, Sl.v k)] ⟨rfl, rfl, trivial⟩ (by kernel_rfl)
   have aR : ab.tmps.getD 4 undef = .int .i64 f := af 1 rfl 4 rfl
   have aS := aQ.add aR
   have aU : ab.tmps.getD 6 undef = .string (Bs g) := af 3 rfl 6 rfl
   have aV := aS.add aU
   have aX : ab.tmps.getD 8 undef = .string (Bs j) := af 5 rfl 8 rfl
   have am := aV.add aX
   have aY := x.ext ad
   have aZ := aN.ext ad
   have a0 : Chg [] z q := ad
   have a1 := aM q    a0
   refine par (D := aa) (S := [9]) (F := []) (V := VL [(9, fun v _ => v = .agg #[.int .i64 f, .string (Bs g), .string (Bs j), Sl.v k, Sl.v Sl.nil])]) am (by kernel_rfl) ⟨fun _ _ _ _ h => h, trivial⟩ ⟨?_, trivial⟩ ?_
   ·intro a w hT
    have hAp := hT.ag am [(4, .int .i64 f), (6, .string (Bs g)), (8, .string (Bs j)), (11, Sl.v k)] ⟨rfl, rfl, rfl, rfl, trivial⟩ (by kernel_rfl)
    exact ovr hAp rfl (r_build (vs := #[(0, .int .i64 f), (1, .string (Bs g)), (2, .string (Bs j)), (3, Sl.v k)]) (cells := #[.int .i64 f, .string (Bs g), .string (Bs j), Sl.v k, Sl.v Sl.nil]) (map_arr2 (ml2_cons (hAp.get rfl) (ml2_cons (hAp.get rfl) (ml2_cons (hAp.get rfl) (ml2_cons (hAp.get rfl) (ml2_nil)))))) ti_25 Tryz.underlying25 pl_25 (by kernel_rfl)) fun _ => Eq.refl _
   ·intro a2 a3 ah a4 a5
    have a6 := a4 [(2, pB d 0)] ⟨rfl, trivial⟩ (by kernel_rfl)
    have a7 : a2.tmps.getD 12 undef = .agg #[.int .i64 f, .string (Bs g), .string (Bs j), Sl.v k, Sl.v Sl.nil] := a5 9 rfl 12 rfl
    have ai := a6.add a7
    have hB70 := aY.ext ah
    have an := aZ.ext ah
    have a9 : Chg [] q a3 := ah
    refine one (D := aa) (i := 10) rfl (by kernel_rfl) (opk_store ai an (r_store (vs := [.int .i64 f, .string (Bs g), .string (Bs j), Sl.v k, Sl.v Sl.nil]) (ai.get rfl) (ai.get rfl) rfl ti_25 an rfl (ones_all _ rfl)) fun bu u ao ba bb => ?_)
    have bd : Box u d 25 [.int .i64 f, .string (Bs g), .string (Bs j), Sl.v k, Sl.v Sl.nil] := ba
    have bv := hB70.keep ao (by simpa using aj)
    have bf := a9.storeOld ao
    refine PR_end (by kernel_rfl) ?_
    have bg := bb.kp [(2, pB d 0)] rfl
    refine gK (bs := [(d, 25, [.int .i64 f, .string (Bs g), .string (Bs j), Sl.v k, Sl.v Sl.nil])]) (N := []) bg bf ⟨bd, trivial⟩ (by simp) trivial (by simp) a1 ?_
    exact tn <| gr <| gT0 <| gzB 0 Tryz.underlying25 ti_25
def ref06_D_At.vc (d : Addr) (f : Int) (R : Value → World → Prop) (w : World) : Prop :=
∃ (j : Int → World → Prop) (l : Int → World → Nat),
j 0 w ∧
(∀ (b : Int) (c : World), j b c →
∃ (g : Sl), (c.cell? (d.add 0) = some (Sl.v g)) ∧
((b < (g.n : Int)) →
∃ (h : Sl), (c.cell? (d.add 0) = some (Sl.v h)) ∧
((0 : Int) ≤ b ∧ b < (h.n : Int)) ∧ ∃ k : Addr, h.a = some k ∧
∃ (i : Int), (c.cell? ((k.add (b.toNat * 8)).add 0) = some (.int .i64 i)) ∧
((i = f) →
R (.int .i64 b) c) ∧
((¬ (i = f)) →
(I64 (b + 1)) ∧
j (b + 1) c ∧ l (b + 1) c < l b c)) ∧
((¬ (b < (g.n : Int))) →
R (.int .i64 (-1)) c))
theorem ref06_D_At.ok (d : Addr) (f : Int) {R : Value → World → Prop} {w : World} (m : ref06_D_At.vc d f R w) : Calls Tryz.prog 77 #[.pointer (some d), .int .i64 f] w (Ret R) := by
 refine go _ Tryz.func77 Tryz.ntmps77 m ?_
 refine gS <| gR <| gN <| ge <| tn <| gS <| gS <| gR ?_
 refine gN <| ge <| tn <| gb <| gE fun _ => gE fun mu => ?_
 refine l1 mu (fun b => [(5, .int .i64 b)]) [(0, _), (1, _)] (fun _ => []) [] [] fun b c _ => gS <| gS <| gR ?_
 refine gM ?_
 refine gM ?_
 refine g1 r_nilCheck ?_
 refine gF 0 Tryz.underlying74 ti_72 ?_
 refine gE fun g => gL tU72 ?_
 refine g1 (fun o => r_len o tU72) ?_
 refine g2 r_lss <| ge <| tn ?_
 refine gi dT dF ?_ ?_
 ·refine gk <| tn <| gS <| gb <| gS <| gR <| gM ?_
  refine g1 r_nilCheck ?_
  refine gF 0 Tryz.underlying74 ti_72 ?_
  refine gE fun h => gL tU72 ?_
  refine gM ?_
  refine gI1 tU72 ti_80 fun k => ?_
  refine gF 0 Tryz.underlying80 ti_3 ?_
  refine gE fun i => gL tU3 ?_
  refine gM ?_
  refine g2 r_eql <| ge <| tn ?_
  refine gi dT dF ?_ ?_
  ·refine gS <| gR <| gM ?_
   refine gN <| ge <| tn <| gr <| br <| tr <| tr <| br <| tr ?_
   exact gz1
  ·refine gk <| bn <| tn <| gR <| gM ?_
   refine g2s r_addI ?_
   refine gN <| ge ?_
   exact k1 []
 ·refine gx <| te <| te <| bh <| tn <| gS <| gR <| gN <| ge <| tn <| gr ?_
  exact gz1
def ref06_holds.vc (a : Addr) (R : Value → World → Prop) (w : World) : Prop :=
∃ (b : Int), (w.cell? ((a.add 2).add 0) = some (.int .i64 b)) ∧
∃ (c : Int), (((¬ (b = 1))) → w.cell? ((a.add 2).add 0) = some (.int .i64 c)) ∧
R (.bool ((decide (b = 1)) || (decide (c = 2)))) w
theorem ref06_holds.ok (a : Addr) {R : Value → World → Prop} {w : World} (d : ref06_holds.vc a R w) : Calls Tryz.prog 79 #[.pointer (some a)] w (Ret R) := by
 refine go _ Tryz.func79 Tryz.ntmps79 d ?_
 refine gS <| gR <| gN <| ge <| tn <| gS <| gR ?_
 refine gM ?_
 refine g1 r_nilCheck ?_
 refine gF 2 Tryz.underlying80 ti_25 ?_
 refine gF 0 Tryz.underlying25 ti_3 ?_
 refine gE fun b => gL tU3 ?_
 refine g2 r_eql ?_
 refine gM ?_
 refine G1 r_move ?_
 refine G1 r_nilCheck ?_
 refine GF 2 Tryz.underlying80 ti_25 ?_
 refine GF 0 Tryz.underlying25 ti_3 ?_
 refine gE fun c => GLd tU3 (fun hg => (dF (g_f hg))) ?_
 refine G2 r_eql ?_
 refine gpo ?_
 refine gN <| ge <| tn <| gr ?_
 exact gz1
def ref06_D_deep.vc (d : Addr) (f : Int) (R : Value → World → Prop) (w : World) : Prop :=
CallK Tryz.prog 57 #[.pointer (some d), .int .i64 f] w [] (fun v m => ∃ (h : Option Addr), v = .pointer h ∧
∃ (i : Int → (Option Addr) → World → Prop) (n : Int → (Option Addr) → World → Nat),
i 0 h m ∧
(∀ (a : Int) (b : Option Addr) (c : World), i a b c →
(((Option.isNone b) = false) →
(I64 (a + 1)) ∧
∃ j : Addr, (b = some j) ∧
∃ (k : Int), (c.cell? (j.add 1) = some (.int .i64 k)) ∧
CallK Tryz.prog 57 #[.pointer (some d), .int .i64 k] c [] (fun v l => ∃ (g : Option Addr), v = .pointer g ∧
i (a + 1) g l ∧ n (a + 1) g l < n a b c)) ∧
(((Option.isNone b) = true) →
R (.int .i64 a) c)))
theorem ref06_D_deep.ok (d : Addr) (f : Int) {R : Value → World → Prop} {w : World} (p : ref06_D_deep.vc d f R w) : Calls Tryz.prog 80 #[.pointer (some d), .int .i64 f] w (Ret R) := by
 refine go _ Tryz.func80 Tryz.ntmps80 p ?_
 refine gS <| gR <| gN <| ge <| tn <| gS <| gR ?_
 refine gN <| ge <| tn <| gS <| gS <| gR ?_
 refine gM ?_
 refine gM ?_
 refine gC [] Tryz.func57 fun _ m => gE fun h => gQ ?_
 refine gN <| ge <| tn <| gb <| gE fun _ => gE fun mu => ?_
 refine l2 mu (fun a b => [(5, .int .i64 a), (6, .pointer b)]) [(0, _)] (fun _ _ => []) [] [] fun a b c _ => gS <| gS <| gR ?_
 refine gM ?_
 refine g2 (fun q r => r_pnnil (o := b) q r tU76) <| ge <| tn ?_
 refine gi nT nF ?_ ?_
 ·refine gk <| tn <| gS <| gb <| gR <| gM ?_
  refine g2s r_addI ?_
  refine gN <| ge <| bn <| tn <| gR ?_
  refine gM ?_
  refine gM ?_
  refine gnP fun j => ?_
  refine gF 1 Tryz.underlying80 ti_3 ?_
  refine gE fun k => gL tU3 ?_
  refine gC [] Tryz.func57 fun _ l => gE fun g => gQ ?_
  refine gN <| ge ?_
  exact k2 []
 ·refine gx <| te <| te <| bh <| tn <| gS <| gR <| gM ?_
  refine gN <| ge <| tn <| gr ?_
  exact gz1
def ref06_put.vc (a : Sl) (b : Int) (d : Int) (R : Value → World → Prop) (w : World) : Prop :=
((0 : Int) ≤ b ∧ b ≤ (a.c : Int)) ∧
RunK Tryz.prog (Builtin.append_ #[78, 78] 78 #[Sl.v Sl.nil, Sl.v (Sl.cut a 1 0 b.toNat a.c)]) w [] (fun v i => ∃ (j : Sl), v = Sl.v j ∧
∀ (f : World) (g : Nat), New i g f → Chg [] i f →
∀ (_ : Box f g 3 [.int .i64 d]),
RunK Tryz.prog (Builtin.append_ #[78, 78] 78 #[Sl.v j, Sl.v (Sl.mk (some ⟨g, 0, none⟩) 1 1)]) f [] (fun v p => ∃ (k : Sl), v = Sl.v k ∧
((0 : Int) ≤ b ∧ b ≤ (a.n : Int)) ∧
RunK Tryz.prog (Builtin.append_ #[78, 78] 78 #[Sl.v k, Sl.v (Sl.cut a 1 b.toNat a.n a.c)]) p [] (fun v q => ∃ (l : Sl), v = Sl.v l ∧
R (Sl.v l) q)))
theorem ref06_put.ok (a : Sl) (b : Int) (d : Int) {R : Value → World → Prop} {w : World} (r : ref06_put.vc a b d R w) : Calls Tryz.prog 81 #[Sl.v a, .int .i64 b, .int .i64 d] w (Ret R) := by
 refine go _ Tryz.func81 Tryz.ntmps81 r ?_
 refine gS <| gR <| gN <| ge <| tn <| gS <| gR ?_
 refine gM ?_
 refine gM ?_
 refine g2s (fun m o h => r_sliceH m o tU78 ti_3 h) ?_
 refine gR2 [] r_append fun _ i => gE fun j => gQ ?_
 refine gM ?_
 refine ns [.int .i64 d] tU78 ti_3 fun f g => gT1 ?_
 refine gX 0 ?_
 refine gR2 [] r_append fun _ p => gE fun k => gQ ?_
 refine gN <| ge <| tn <| gS <| gR ?_
 refine gM ?_
 refine gM ?_
 refine gM ?_
 refine g2s (fun m o h => r_sliceL m o tU78 ti_3 h) ?_
 refine gR2 [] r_append fun _ q => gE fun l => gQ ?_
 refine gN <| ge <| tn <| gr ?_
 exact gz1
end Go.Proofs.YtghmgfkdnolcdaaGreat
