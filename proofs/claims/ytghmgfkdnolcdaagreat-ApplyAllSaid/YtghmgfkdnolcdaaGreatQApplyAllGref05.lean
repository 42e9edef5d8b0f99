/-
  PRINTED BY PROGRAM: for each function its condition (vc), and that this suffices (ok).
-/
import Derived.Test.YtghmgfkdnolcdaaGreatQApplyAllGT
namespace Go.Proofs.YtghmgfkdnolcdaaGreat
open Go.RowKit
set_option linter.unusedVariables false
set_option maxHeartbeats 1000000
set_option maxRecDepth 10000
def ref05_Same.vc (b : Int) (c : Str) (d : Str) (f : Sl) (g : Sl) (h : Int) (i : Str) (j : Str) (k : Sl) (l : Sl) (R : Value → World → Prop) (w : World) : Prop :=
∀ (a : World) (m : Nat) (n : Nat), New w m a → New w n a → m ≠ n → Chg [] w a →
CallK Tryz.prog 21 #[.agg #[.int .i64 b, .string (Bs c), .string (Bs d), Sl.v f, Sl.v g], .agg #[.int .i64 h, .string (Bs i), .string (Bs j), Sl.v k, Sl.v l]] a [m, n] (fun v p => ∃ (o : Int), v = .int .i64 o ∧
R (.bool (decide (o = 0))) p)
theorem ref05_Same.ok (b : Int) (c : Str) (d : Str) (f : Sl) (g : Sl) (h : Int) (i : Str) (j : Str) (k : Sl) (l : Sl) {R : Value → World → Prop} {w : World} (q : ref05_Same.vc b c d f g h i j k l R w) : Calls Tryz.prog 11 #[.agg #[.int .i64 b, .string (Bs c), .string (Bs d), Sl.v f, Sl.v g], .agg #[.int .i64 h, .string (Bs i), .string (Bs j), Sl.v k, Sl.v l]] w (Ret R) := by
 refine go _ Tryz.func11 Tryz.ntmps11 q ?_
 refine gS <| gR <| nb fun r m => ?_
 refine nb fun a n => ?_
 refine gN <| ge <| tn <| gS <| gR ?_
 refine gBN 1 5 Tryz.underlying25 ti_25 ?_
 refine gBN 0 5 Tryz.underlying25 ti_25 <| gT2 ?_
 refine gC [1, 0] Tryz.func21 fun _ p => gE fun o => gQ ?_
 refine g2 r_eql ?_
 refine gN <| ge <| tn <| gr ?_
 exact gz1
def ref05_Compare.vc (p : Int) (q : Str) (r : Str) (s : Sl) (d : Sl) (t : Int) (u : Str) (x : Str) (y : Sl) (f : Sl) (R : Value → World → Prop) (w : World) : Prop :=
∀ (m : World) (i : Nat) (j : Nat), New w i m → New w j m → i ≠ j → Chg [] w m →
CallK Tryz.prog 29 #[.agg #[.int .i64 p, .string (Bs q), .string (Bs r), Sl.v s, Sl.v d], .agg #[.int .i64 t, .string (Bs u), .string (Bs x), Sl.v y, Sl.v f]] m [i, j] (fun v w9 => ∃ (aa : Int), v = .int .i64 aa ∧
∃ (ab : Int → Int → World → Prop) (au : Int → Int → World → Nat),
ab aa 0 w9 ∧
(∀ (g : Int) (b : Int) (k : World), ab g b k →
((((g = 0) ∧ (b < (d.n : Int))) ∧ (b < (f.n : Int))) →
∀ (l : World), Chg [] k l →
∃ ad : Addr, (((0 : Int) ≤ b ∧ b < (d.n : Int)) ∧ d.a = some ad) ∧
∃ (af : Int) (ag : Str) (ah : Str) (ai : Sl) (aj : Sl), (Cells l (ad.add (b.toNat * 5)) [.int .i64 af, .string (Bs ag), .string (Bs ah), Sl.v ai, Sl.v aj]) ∧
∃ ak : Addr, (((0 : Int) ≤ b ∧ b < (f.n : Int)) ∧ f.a = some ak) ∧
∃ (al : Int) (am : Str) (an : Str) (ao : Sl) (ap : Sl), (Cells l (ak.add (b.toNat * 5)) [.int .i64 al, .string (Bs am), .string (Bs an), Sl.v ao, Sl.v ap]) ∧
∃ (o : Int), (∀ w' : World, Ext l w' → Calls Tryz.prog 21 #[.agg #[.int .i64 af, .string (Bs ag), .string (Bs ah), Sl.v ai, Sl.v aj], .agg #[.int .i64 al, .string (Bs am), .string (Bs an), Sl.v ao, Sl.v ap]] w' (Ret fun v w'' => Ext w' w'' ∧ v = .int .i64 o)) ∧
(I64 (b + 1)) ∧
∀ (z : World), Chg [] l z →
ab o (b + 1) z ∧ au o (b + 1) z < au g b k) ∧
((((¬ (g = 0)) ∨ (¬ (b < (d.n : Int)))) ∨ (¬ (b < (f.n : Int)))) →
((g = 0) →
CallK Tryz.prog 30 #[.bool (decide ((d.n : Int) < (f.n : Int))), .bool (decide ((f.n : Int) < (d.n : Int)))] k [i, j] (fun v av => ∃ (aq : Int), v = .int .i64 aq ∧
R (.int .i64 aq) av)) ∧
((¬ (g = 0)) →
R (.int .i64 g) k))))
theorem ref05_Compare.ok (p : Int) (q : Str) (r : Str) (s : Sl) (d : Sl) (t : Int) (u : Str) (x : Str) (y : Sl) (f : Sl) {R : Value → World → Prop} {w : World} (ax : ref05_Compare.vc p q r s d t u x y f R w) : Calls Tryz.prog 21 #[.agg #[.int .i64 p, .string (Bs q), .string (Bs r), Sl.v s, Sl.v d], .agg #[.int .i64 t, .string (Bs u), .string (Bs x), Sl.v y, Sl.v f]] w (Ret R) := by
 refine go _ Tryz.func21 Tryz.ntmps21 ax ?_
 refine gS <| gR <| nb fun w4 i => ?_
 refine nb fun m j => ?_
 refine gN <| ge <| tn <| gS <| gR ?_
 refine gBN 1 5 Tryz.underlying25 ti_25 ?_
 refine gBN 0 5 Tryz.underlying25 ti_25 <| gT2 ?_
 refine gC [1, 0] Tryz.func29 fun _ w9 => gE fun aa => gQ ?_
 refine gN <| ge <| tn <| gS <| gS <| gR ?_
 refine gN <| ge <| tn <| gb <| gE fun _ => gE fun mu => ?_
 refine l2 mu (fun g b => [(5, .int .i64 g), (6, .int .i64 b)]) [(2, _), (3, _)] (fun _ _ => []) [(i, _, _), (j, _, _)] [1, 0] fun g b k _ => gS <| gS <| gR ?_
 refine gM ?_
 refine g2 r_eql ?_
 refine gM ?_
 refine G1 r_move ?_
 refine GF 4 Tryz.underlying25 ti_23 ?_
 refine GB 0 tU23 ?_
 refine G1 (fun c => r_len c tU23) ?_
 refine G2 r_lss ?_
 refine gpa ?_
 refine gM ?_
 refine G1 r_move ?_
 refine GF 4 Tryz.underlying25 ti_23 ?_
 refine GB 1 tU23 ?_
 refine G1 (fun c => r_len c tU23) ?_
 refine G2 r_lss ?_
 refine gpa <| ge <| tn ?_
 refine gi (fun h => ⟨⟨(dT (aT (aT h).1).1), (dT (aT (aT h).1).2)⟩, (dT (aT h).2)⟩) (fun h => ((aF h).imp (fun h => ((aF h).imp (fun h => (dF h)) (fun h => (dF h)))) (fun h => (dF h)))) ?_ ?_
 ·refine gk <| tn <| gS <| gb <| gD fun l => gT0 <| gE fun ad => gA fun ay => gE fun af => gE fun ag => gE fun ah => gE fun ai => gE fun aj => gA fun az => gE fun ak => gA fun aA => gE fun al => gE fun am => gE fun an => gE fun ao => gE fun ap => gA fun aB => gE fun o => gA fun aC => ?_
  refine gW 0 12 [(10, rsU (.int .i64 o))] ?_
  refine gF 4 Tryz.underlying25 ti_23 ?_
  refine gB 0 tU23 ?_
  refine gM ?_
  refine gIx tU23 ti_25 ay ?_
  refine gP az <| gLN Tryz.underlying25 ti_25 ?_
  refine gF 4 Tryz.underlying25 ti_23 ?_
  refine gB 1 tU23 ?_
  refine gM ?_
  refine gIx tU23 ti_25 aA ?_
  refine gP aB <| gLN Tryz.underlying25 ti_25 ?_
  refine yc rfl Tryz.func21 (fun w' hE _ => aC w' hE) (fun _ _ h => ⟨(), h, trivial⟩) fun _ => ?_
  refine gN ?_
  refine eT fun z => ?_
  refine gZ <| bn <| tn <| gR ?_
  refine gM ?_
  refine g2s r_addI ?_
  refine gN <| ge <| gT0 ?_
  exact k2 [0, 1]
 ·refine gx <| te <| te <| bh <| tn <| gS <| gS <| gR <| gM ?_
  refine g2 r_eql <| ge <| tn ?_
  refine gi dT dF ?_ ?_
  ·refine gR <| gF 4 Tryz.underlying25 ti_23 ?_
   refine gB 0 tU23 ?_
   refine g1 (fun c => r_len c tU23) ?_
   refine gF 4 Tryz.underlying25 ti_23 ?_
   refine gB 1 tU23 ?_
   refine g1 (fun c => r_len c tU23) ?_
   refine g2 r_lss ?_
   refine gF 4 Tryz.underlying25 ti_23 ?_
   refine gB 0 tU23 ?_
   refine g1 (fun c => r_len c tU23) ?_
   refine gF 4 Tryz.underlying25 ti_23 ?_
   refine gB 1 tU23 ?_
   refine g1 (fun c => r_len c tU23) ?_
   refine g2 r_gtr ?_
   refine gC [0, 1] Tryz.func30 fun _ av => gE fun aq => gQ ?_
   refine gN <| ge <| tn <| gS <| gR ?_
   refine gM ?_
   refine gN <| ge <| tn <| gr ?_
   exact gz1
  ·refine gk <| tn <| gS <| gR <| gM ?_
   refine gN <| ge <| tn <| gr ?_
   exact gz1
def ref05_Node.vc (ak : Int) (aa : Str) (ab : Str) (l : Sl) (az : Sl) (al : Int) (ad : Str) (af : Str) (k : Sl) (aA : Sl) (R : Value → World → Prop) (w : World) : Prop :=
∀ (w6 : World) (f : Nat) (d : Nat), New w f w6 → New w d w6 → f ≠ d → Chg [] w w6 →
CallK Tryz.prog 30 #[.bool (decide (ak < al)), .bool (decide (al < ak))] w6 [f, d] (fun v w9 => ∃ (av : Int), v = .int .i64 av ∧
∃ aM : Int → World → Prop,
(((av = 0) →
CallK Tryz.prog 30 #[.bool (Op.bytesLess aa ad), .bool (!((Op.bytesLess aa ad) || (decide (aa = ad))))] w9 [f, d] (fun v a5 => ∃ (aN : Int), v = .int .i64 aN ∧
aM aN a5)) ∧
((¬ (av = 0)) →
aM av w9)) ∧
(∀ (ah : Int) (aB : World), aM ah aB →
∃ aO : Int → World → Prop,
(((ah = 0) →
CallK Tryz.prog 30 #[.bool (Op.bytesLess ab af), .bool (!((Op.bytesLess ab af) || (decide (ab = af))))] aB [f, d] (fun v a6 => ∃ (aP : Int), v = .int .i64 aP ∧
aO aP a6)) ∧
((¬ (ah = 0)) →
aO ah aB)) ∧
(∀ (ax : Int) (aQ : World), aO ax aQ →
∃ (aR : Int → Int → World → Prop) (a7 : Int → Int → World → Nat),
aR ax 0 aQ ∧
(∀ (u : Int) (b : Int) (ai : World), aR u b ai →
((((u = 0) ∧ (b < (l.n : Int))) ∧ (b < (k.n : Int))) →
∀ (o : World), Chg [] ai o →
∃ am : Addr, (((0 : Int) ≤ b ∧ b < (l.n : Int)) ∧ l.a = some am) ∧
∃ (p : Str) (x : Str), (Cells o (am.add (b.toNat * 2)) [.string (Bs p), .string (Bs x)]) ∧
∃ aj : Addr, (((0 : Int) ≤ b ∧ b < (k.n : Int)) ∧ k.a = some aj) ∧
∃ (q : Str) (y : Str), (Cells o (aj.add (b.toNat * 2)) [.string (Bs q), .string (Bs y)]) ∧
∀ (z : World) (g : Nat) (j : Nat), Ext o z → o.heap.size ≤ g → Box z g 63 [.string (Bs []), .string (Bs [])] → o.heap.size ≤ j → Box z j 63 [.string (Bs []), .string (Bs [])] → 
∀ (aC : World), Chg [j, g] z aC →
CallK Tryz.prog 30 #[.bool ((Op.bytesLess p q) || ((decide (p = q)) && (Op.bytesLess x y))), .bool ((!((Op.bytesLess p q) || (decide (p = q)))) || ((decide (p = q)) && (!((Op.bytesLess x y) || (decide (x = y))))))] aC [f, d, g, j] (fun v aS => ∃ (aD : Int), v = .int .i64 aD ∧
(I64 (b + 1)) ∧
aR aD (b + 1) aS ∧ a7 aD (b + 1) aS < a7 u b ai)) ∧
((((¬ (u = 0)) ∨ (¬ (b < (l.n : Int)))) ∨ (¬ (b < (k.n : Int)))) →
((u = 0) →
CallK Tryz.prog 30 #[.bool (decide ((l.n : Int) < (k.n : Int))), .bool (decide ((k.n : Int) < (l.n : Int)))] ai [f, d] (fun v a8 => ∃ (aU : Int), v = .int .i64 aU ∧
R (.int .i64 aU) a8)) ∧
((¬ (u = 0)) →
R (.int .i64 u) ai))))))
theorem ref05_Node.ok (ak : Int) (aa : Str) (ab : Str) (l : Sl) (az : Sl) (al : Int) (ad : Str) (af : Str) (k : Sl) (aA : Sl) {R : Value → World → Prop} {w : World} (bB : ref05_Node.vc ak aa ab l az al ad af k aA R w) : Calls Tryz.prog 29 #[.agg #[.int .i64 ak, .string (Bs aa), .string (Bs ab), Sl.v l, Sl.v az], .agg #[.int .i64 al, .string (Bs ad), .string (Bs af), Sl.v k, Sl.v aA]] w (Ret R) := by
 refine go _ Tryz.func29 Tryz.ntmps29 bB ?_
 refine gS <| gR <| nb fun w4 f => ?_
 refine nb fun w6 d => ?_
 refine gN <| ge <| tn <| gS <| gR ?_
 refine gF 0 Tryz.underlying25 ti_3 ?_
 refine gB 1 tU3 ?_
 refine gF 0 Tryz.underlying25 ti_3 ?_
 refine gB 0 tU3 ?_
 refine g2 r_lss ?_
 refine gF 0 Tryz.underlying25 ti_3 ?_
 refine gB 1 tU3 ?_
 refine gF 0 Tryz.underlying25 ti_3 ?_
 refine gB 0 tU3 ?_
 refine g2 r_gtr <| gT2 ?_
 refine gC [1, 0] Tryz.func30 fun _ w9 => gE fun av => gQ ?_
 refine gN <| ge <| tn <| gS <| gS <| gR ?_
 refine gM ?_
 refine g2 r_eql <| ge <| tn <| gE fun J => ?_
 refine m1 (fun ah => [(5, .int .i64 ah)]) [(2, _), (3, _)] (fun _ => []) [(f, _, _), (d, _, _)] [1, 0] ?_ fun ah aB _ => ?_
 ·refine gi dT dF ?_ ?_
  ·refine gR <| gF 1 Tryz.underlying25 ti_9 ?_
   refine gB 1 tU9 ?_
   refine gF 1 Tryz.underlying25 ti_9 ?_
   refine gB 0 tU9 ?_
   refine g2 r_slss ?_
   refine gF 1 Tryz.underlying25 ti_9 ?_
   refine gB 1 tU9 ?_
   refine gF 1 Tryz.underlying25 ti_9 ?_
   refine gB 0 tU9 ?_
   refine g2 r_sgtr ?_
   refine gC [1, 0] Tryz.func30 fun _ a5 => gE fun aN => gQ ?_
   refine gN <| ge ?_
   exact j1 [1, 0]
  ·exact gk <| j1 [1, 0]
 ·refine tn <| gS <| gS <| gR <| gM ?_
  refine g2 r_eql <| ge <| tn <| gE fun J => ?_
  refine m1 (fun ax => [(5, .int .i64 ax)]) [(2, _), (3, _)] (fun _ => []) [(f, _, _), (d, _, _)] [0, 1] ?_ fun ax aQ _ => ?_
  ·refine gi dT dF ?_ ?_
   ·refine gR <| gF 2 Tryz.underlying25 ti_9 ?_
    refine gB 0 tU9 ?_
    refine gF 2 Tryz.underlying25 ti_9 ?_
    refine gB 1 tU9 ?_
    refine g2 r_slss ?_
    refine gF 2 Tryz.underlying25 ti_9 ?_
    refine gB 0 tU9 ?_
    refine gF 2 Tryz.underlying25 ti_9 ?_
    refine gB 1 tU9 ?_
    refine g2 r_sgtr ?_
    refine gC [0, 1] Tryz.func30 fun _ a6 => gE fun aP => gQ ?_
    refine gN <| ge ?_
    exact j1 [0, 1]
   ·exact gk <| j1 [0, 1]
  ·refine tn <| gS <| gS <| gR <| gN <| ge <| tn <| gb <| gE fun _ => gE fun mu => ?_
   refine l2 mu (fun u b => [(5, .int .i64 u), (6, .int .i64 b)]) [(2, _), (3, _)] (fun _ _ => []) [(f, _, _), (d, _, _)] [0, 1] fun u b ai _ => gS <| gS <| gR ?_
   refine gM ?_
   refine g2 r_eql ?_
   refine gM ?_
   refine G1 r_move ?_
   refine GF 3 Tryz.underlying25 ti_22 ?_
   refine GB 0 tU22 ?_
   refine G1 (fun s => r_len s tU22) ?_
   refine G2 r_lss ?_
   refine gpa ?_
   refine gM ?_
   refine G1 r_move ?_
   refine GF 3 Tryz.underlying25 ti_22 ?_
   refine GB 1 tU22 ?_
   refine G1 (fun s => r_len s tU22) ?_
   refine G2 r_lss ?_
   refine gpa <| ge <| tn ?_
   refine gi (fun h => ⟨⟨(dT (aT (aT h).1).1), (dT (aT (aT h).1).2)⟩, (dT (aT h).2)⟩) (fun h => ((aF h).imp (fun h => ((aF h).imp (fun h => (dF h)) (fun h => (dF h)))) (fun h => (dF h)))) ?_ ?_
   ·refine gk <| tn <| gS <| gb <| gS ?_
    intro cq aG bC
    have m := aG.ag
    have bD := aG.bx 0 rfl
    have bF := aG.bx 1 rfl
    have bG : f ≠ d := aG.ne 0 1
    let aV : List (List Nat) := [[], [0], [], [0, 1, 2], [0, 1, 2, 3], [], [5], [], [5, 6, 7], [5, 6, 7, 8], [], [], [0, 1, 2, 3, 4, 10, 11], [0, 1, 2, 3, 4, 5, 6, 7, 8, 9, 10, 11, 12]]
    refine draw' (by kernel_rfl) fun o aX => ?_
    have aH := bD.ext aX
    have aI := bF.ext aX
    have bH : Chg [] ai o := aX
    have bI := bC o    bH
    obtain ⟨am, aJ, bJ⟩ := bI
    obtain ⟨p, x, aY, bK⟩ := bJ
    obtain ⟨aj, an, bL⟩ := bK
    obtain ⟨q, y, aZ, bM⟩ := bL
    refine startF (D := aV) (Fs := [0, 1, 2, 3, 4, 5, 6, 7, 8, 9]) (Ef := [(0, fun v _ => v = pB f 3), (1, fun v _ => v = Sl.v l), (2, fun v _ => v = .int .i64 b), (3, fun v _ => v = .pointer (some (am.add (b.toNat * 2)))), (4, fun v _ => v = .agg #[.string (Bs p), .string (Bs x)]), (5, fun v _ => v = pB d 3), (6, fun v _ => v = Sl.v k), (7, fun v _ => v = .int .i64 b), (8, fun v _ => v = .pointer (some (aj.add (b.toNat * 2)))), (9, fun v _ => v = .agg #[.string (Bs q), .string (Bs y)])]) (by kernel_rfl) ?_
    refine parFN (D := aV) (S := [10, 11]) (F := []) (KE := [10, 11]) (N := [10, 11]) (E := [(10, fun v w' => ∃ g : Nat, o.heap.size ≤ g ∧ Box w' g 63 [.string (Bs []), .string (Bs [])] ∧ v = pB g 0), (11, fun v w' => ∃ j : Nat, o.heap.size ≤ j ∧ Box w' j 63 [.string (Bs []), .string (Bs [])] ∧ v = pB j 0)]) m rfl (by kernel_rfl) (blkF ⟨fun _ _ h => by obtain ⟨g, _, hB, rfl⟩ := h; exact hB.lt, fun _ _ h => by obtain ⟨j, _, hB, rfl⟩ := h; exact hB.lt, trivial⟩) ⟨fun _ _ _ hE ⟨g, h0_, h1_, e⟩ => ⟨g, h0_, (h1_.ext hE), e⟩, fun _ _ _ hE ⟨j, h0_, h1_, e⟩ => ⟨j, h0_, (h1_.ext hE), e⟩, fun _ _ _ _ h => h, fun _ _ _ _ h => h, fun _ _ _ _ h => h, fun _ _ _ _ h => h, fun _ _ _ _ h => h, fun _ _ _ _ h => h, fun _ _ _ _ h => h, fun _ _ _ _ h => h, fun _ _ _ _ h => h, fun _ _ _ _ h => h, trivial⟩ ⟨?_, ?_, ?_, ?_, ?_, ?_, ?_, ?_, ?_, ?_, ?_, ?_, trivial⟩ ?_
    ·intro a w hT
     have hAp := hT.ag m [] trivial (by kernel_rfl)
     exact opk_new (fun B => .pointer (some ⟨B, 0, none⟩)) hAp rfl (r_alloc (cs := [.string (Bs []), .string (Bs [])]) ti_63 rfl) fun _ cr g bN a9 bO _ e => ⟨_, e, bN, fun _ => ⟨g, Nat.le_trans hT.chg.size a9.ge, bO, rfl⟩, fun _ => a9.ge⟩
    ·intro a w hT
     have hAp := hT.ag m [] trivial (by kernel_rfl)
     exact opk_new (fun B => .pointer (some ⟨B, 0, none⟩)) hAp rfl (r_alloc (cs := [.string (Bs []), .string (Bs [])]) ti_63 rfl) fun _ ct j bP ba bQ _ e => ⟨_, e, bP, fun _ => ⟨j, Nat.le_trans hT.chg.size ba.ge, bQ, rfl⟩, fun _ => ba.ge⟩
    ·intro a w hT
     refine overN_of rfl ?_
     have hAp := hT.ag m [(2, pB f 0)] ⟨rfl, trivial⟩ (by kernel_rfl)
     exact ovr hAp rfl (r_fieldAddr (hAp.get rfl) Tryz.underlying25 rfl ti_22 (by decide)) fun _ => Eq.refl _
    ·intro a w hT
     refine overN_of rfl ?_
     have hAp := hT.ag m [] trivial (by kernel_rfl)
     have hAp := hAp.add (t := 64) (v := pB f 3) (hT.vals 0 rfl 64 rfl)
     exact ovr hAp rfl (r_load1 tU22 rfl (hAp.get rfl) ((aH.ext hT.chg).cell 3 _ rfl)) fun _ => Eq.refl _
    ·intro a w hT
     refine overN_of rfl ?_
     have hAp := hT.ag m [(6, .int .i64 b)] ⟨rfl, trivial⟩ (by kernel_rfl)
     exact ovr hAp rfl (r_move (hAp.get rfl)) fun _ => Eq.refl _
    ·intro a w hT
     refine overN_of rfl ?_
     have hAp := hT.ag m [] trivial (by kernel_rfl)
     have hAp := hAp.add (t := 65) (v := Sl.v l) (hT.vals 1 rfl 65 rfl)
     have hAp := hAp.add (t := 66) (v := .int .i64 b) (hT.vals 2 rfl 66 rfl)
     exact ovr hAp rfl (r_indexAddr (hAp.get rfl) (hAp.get rfl) tU22 ti_63 aJ.1 aJ.2) fun _ => Eq.refl _
    ·intro a w hT
     refine overN_of rfl ?_
     have hAp := hT.ag m [] trivial (by kernel_rfl)
     have hAp := hAp.add (t := 67) (v := .pointer (some (am.add (b.toNat * 2)))) (hT.vals 3 rfl 67 rfl)
     exact ovr hAp rfl (r_loadN Tryz.underlying63 rfl ti_63 (hAp.get rfl) (aY.ext hT.chg)) fun _ => Eq.refl _
    ·intro a w hT
     refine overN_of rfl ?_
     have hAp := hT.ag m [(3, pB d 0)] ⟨rfl, trivial⟩ (by kernel_rfl)
     exact ovr hAp rfl (r_fieldAddr (hAp.get rfl) Tryz.underlying25 rfl ti_22 (by decide)) fun _ => Eq.refl _
    ·intro a w hT
     refine overN_of rfl ?_
     have hAp := hT.ag m [] trivial (by kernel_rfl)
     have hAp := hAp.add (t := 69) (v := pB d 3) (hT.vals 5 rfl 69 rfl)
     exact ovr hAp rfl (r_load1 tU22 rfl (hAp.get rfl) ((aI.ext hT.chg).cell 3 _ rfl)) fun _ => Eq.refl _
    ·intro a w hT
     refine overN_of rfl ?_
     have hAp := hT.ag m [(6, .int .i64 b)] ⟨rfl, trivial⟩ (by kernel_rfl)
     exact ovr hAp rfl (r_move (hAp.get rfl)) fun _ => Eq.refl _
    ·intro a w hT
     refine overN_of rfl ?_
     have hAp := hT.ag m [] trivial (by kernel_rfl)
     have hAp := hAp.add (t := 70) (v := Sl.v k) (hT.vals 6 rfl 70 rfl)
     have hAp := hAp.add (t := 71) (v := .int .i64 b) (hT.vals 7 rfl 71 rfl)
     exact ovr hAp rfl (r_indexAddr (hAp.get rfl) (hAp.get rfl) tU22 ti_63 an.1 an.2) fun _ => Eq.refl _
    ·intro a w hT
     refine overN_of rfl ?_
     have hAp := hT.ag m [] trivial (by kernel_rfl)
     have hAp := hAp.add (t := 72) (v := .pointer (some (aj.add (b.toNat * 2)))) (hT.vals 8 rfl 72 rfl)
     exact ovr hAp rfl (r_loadN Tryz.underlying63 rfl ti_63 (hAp.get rfl) (aZ.ext hT.chg)) fun _ => Eq.refl _
    ·intro cu z ao bR bb bS
     have bT := bR [(2, pB f 0), (3, pB d 0), (6, .int .i64 b)] ⟨rfl, rfl, rfl, trivial⟩ (by kernel_rfl)
     obtain ⟨g, ay, a0, bd⟩ := bb 10 rfl 7 rfl
     have bU := bT.add bd
     obtain ⟨j, a1, bf, bg⟩ := bb 11 rfl 8 rfl
     have r := bU.add bg
     have a2 : g ≠ j := by have h := bS 10 11 rfl 7 8 rfl rfl; rw [bd, bg] at h; exact h
     have bi := aH.ext ao
     have bj := aI.ext ao
     have cv : Chg [] o z := ao
     have bk := aY.ext ao
     have bl := aZ.ext ao
     have bV := bM z g j ao ay a0 a1 bf
     have bo : f ≠ g := Nat.ne_of_lt (Nat.lt_of_lt_of_le aH.lt ay)
     have bp : d ≠ g := Nat.ne_of_lt (Nat.lt_of_lt_of_le aI.lt ay)
     have bq : f ≠ j := Nat.ne_of_lt (Nat.lt_of_lt_of_le aH.lt a1)
     have bt : d ≠ j := Nat.ne_of_lt (Nat.lt_of_lt_of_le aI.lt a1)
     refine oneF (c := 12) r rfl (by kernel_rfl) (constF ⟨fun _ _ _ h => h, fun _ _ _ h => h, fun _ _ _ h => h, fun _ _ _ h => h, fun _ _ _ h => h, fun _ _ _ h => h, fun _ _ _ h => h, fun _ _ _ h => h, fun _ _ _ h => h, fun _ _ _ h => h, trivial⟩) ⟨?_, ?_, ?_, ?_, ?_, ?_, ?_, ?_, ?_, ?_, trivial⟩ ?_
     ·intro a hT
      have hAp := hT.ag r [(2, pB f 0)] ⟨rfl, trivial⟩ (by kernel_rfl)
      exact opk_val hAp rfl (r_fieldAddr (hAp.get rfl) Tryz.underlying25 rfl ti_22 (by decide)) fun _ _ e => ⟨_, e, rfl, fun _ => Eq.refl _⟩
     ·intro a hT
      have hAp := hT.ag r [] trivial (by kernel_rfl)
      have hAp := hAp.add (t := 64) (v := pB f 3) (hT.vals 0 rfl 64 rfl)
      exact opk_val hAp rfl (r_load1 tU22 rfl (hAp.get rfl) ((bi.ext hT.chg).cell 3 _ rfl)) fun _ _ e => ⟨_, e, rfl, fun _ => Eq.refl _⟩
     ·intro a hT
      have hAp := hT.ag r [(6, .int .i64 b)] ⟨rfl, trivial⟩ (by kernel_rfl)
      exact opk_val hAp rfl (r_move (hAp.get rfl)) fun _ _ e => ⟨_, e, rfl, fun _ => Eq.refl _⟩
     ·intro a hT
      have hAp := hT.ag r [] trivial (by kernel_rfl)
      have hAp := hAp.add (t := 65) (v := Sl.v l) (hT.vals 1 rfl 65 rfl)
      have hAp := hAp.add (t := 66) (v := .int .i64 b) (hT.vals 2 rfl 66 rfl)
      exact opk_val hAp rfl (r_indexAddr (hAp.get rfl) (hAp.get rfl) tU22 ti_63 aJ.1 aJ.2) fun _ _ e => ⟨_, e, rfl, fun _ => Eq.refl _⟩
     ·intro a hT
      have hAp := hT.ag r [] trivial (by kernel_rfl)
      have hAp := hAp.add (t := 67) (v := .pointer (some (am.add (b.toNat * 2)))) (hT.vals 3 rfl 67 rfl)
      exact opk_val hAp rfl (r_loadN Tryz.underlying63 rfl ti_63 (hAp.get rfl) (bk.ext hT.chg)) fun _ _ e => ⟨_, e, rfl, fun _ => Eq.refl _⟩
     ·intro a hT
      have hAp := hT.ag r [(3, pB d 0)] ⟨rfl, trivial⟩ (by kernel_rfl)
      exact opk_val hAp rfl (r_fieldAddr (hAp.get rfl) Tryz.underlying25 rfl ti_22 (by decide)) fun _ _ e => ⟨_, e, rfl, fun _ => Eq.refl _⟩
     ·intro a hT
      have hAp := hT.ag r [] trivial (by kernel_rfl)
      have hAp := hAp.add (t := 69) (v := pB d 3) (hT.vals 5 rfl 69 rfl)
      exact opk_val hAp rfl (r_load1 tU22 rfl (hAp.get rfl) ((bj.ext hT.chg).cell 3 _ rfl)) fun _ _ e => ⟨_, e, rfl, fun _ => Eq.refl _⟩
     ·intro a hT
      have hAp := hT.ag r [(6, .int .i64 b)] ⟨rfl, trivial⟩ (by kernel_rfl)
      exact opk_val hAp rfl (r_move (hAp.get rfl)) fun _ _ e => ⟨_, e, rfl, fun _ => Eq.refl _⟩
     ·intro a hT
      have hAp := hT.ag r [] trivial (by kernel_rfl)
      have hAp := hAp.add (t := 70) (v := Sl.v k) (hT.vals 6 rfl 70 rfl)
      have hAp := hAp.add (t := 71) (v := .int .i64 b) (hT.vals 7 rfl 71 rfl)
      exact opk_val hAp rfl (r_indexAddr (hAp.get rfl) (hAp.get rfl) tU22 ti_63 an.1 an.2) fun _ _ e => ⟨_, e, rfl, fun _ => Eq.refl _⟩
     ·intro a hT
      have hAp := hT.ag r [] trivial (by kernel_rfl)
      have hAp := hAp.add (t := 72) (v := .pointer (some (aj.add (b.toNat * 2)))) (hT.vals 8 rfl 72 rfl)
      exact opk_val hAp rfl (r_loadN Tryz.underlying63 rfl ti_63 (hAp.get rfl) (bl.ext hT.chg)) fun _ _ e => ⟨_, e, rfl, fun _ => Eq.refl _⟩
     ·intro bX hT
      have bY := hT.ag r [(2, pB f 0), (3, pB d 0), (6, .int .i64 b), (7, pB g 0), (8, pB j 0)] ⟨rfl, rfl, rfl, rfl, rfl, trivial⟩ (by kernel_rfl)
      have bZ : bX.tmps.getD 68 undef = .agg #[.string (Bs p), .string (Bs x)] := hT.vals 4 rfl 68 rfl
      have a3 := bY.add bZ
      refine opk_storeF a3 a0 (r_store (vs := [.string (Bs p), .string (Bs x)]) (a3.get rfl) (a3.get rfl) rfl ti_63 a0 rfl (ones_all _ rfl)) fun bu ap b0 b1 => ⟨undef, Eq.refl _, ?_⟩
      have b2 : Box bu g 63 [.string (Bs p), .string (Bs x)] := b0
      have b3 := bi.keep ap (by simpa using bo)
      have bv := bj.keep ap (by simpa using bp)
      have b4 := bf.keep ap (by simpa using a2.symm)
      have b5 : Chg [g] z bu := ap
      have cx := bk.chg ap (Cells.apart aY ay)
      have bz := bl.chg ap (Cells.apart aZ ay)
      refine PRF_drop (X := [0, 1, 2, 3, 4]) (Fs' := [5, 6, 7, 8, 9]) b1 (by kernel_rfl) fun cy b6 cz => ?_
      have aq := b6 [(2, pB f 0), (3, pB d 0), (6, .int .i64 b), (7, pB g 0), (8, pB j 0)] ⟨rfl, rfl, rfl, rfl, rfl, trivial⟩ (by kernel_rfl)
      refine joinF aq (by kernel_rfl) ⟨fun _ _ _ _ h => h, fun _ _ _ _ h => h, fun _ _ _ _ h => h, fun _ _ _ _ h => h, fun _ _ _ _ h => h, trivial⟩ ⟨?_, ?_, ?_, ?_, ?_, trivial⟩ ?_
      ·intro a w hT
       have hAp := hT.ag aq [(3, pB d 0)] ⟨rfl, trivial⟩ (by kernel_rfl)
       exact ovr hAp rfl (r_fieldAddr (hAp.get rfl) Tryz.underlying25 rfl ti_22 (by decide)) fun _ => Eq.refl _
      ·intro a w hT
       have hAp := hT.ag aq [] trivial (by kernel_rfl)
       have hAp := hAp.add (t := 69) (v := pB d 3) (hT.vals 5 rfl 69 rfl)
       exact ovr hAp rfl (r_load1 tU22 rfl (hAp.get rfl) ((bv.ext hT.chg).cell 3 _ rfl)) fun _ => Eq.refl _
      ·intro a w hT
       have hAp := hT.ag aq [(6, .int .i64 b)] ⟨rfl, trivial⟩ (by kernel_rfl)
       exact ovr hAp rfl (r_move (hAp.get rfl)) fun _ => Eq.refl _
      ·intro a w hT
       have hAp := hT.ag aq [] trivial (by kernel_rfl)
       have hAp := hAp.add (t := 70) (v := Sl.v k) (hT.vals 6 rfl 70 rfl)
       have hAp := hAp.add (t := 71) (v := .int .i64 b) (hT.vals 7 rfl 71 rfl)
       exact ovr hAp rfl (r_indexAddr (hAp.get rfl) (hAp.get rfl) tU22 ti_63 an.1 an.2) fun _ => Eq.refl _
      ·intro a w hT
       have hAp := hT.ag aq [] trivial (by kernel_rfl)
       have hAp := hAp.add (t := 72) (v := .pointer (some (aj.add (b.toNat * 2)))) (hT.vals 8 rfl 72 rfl)
       exact ovr hAp rfl (r_loadN Tryz.underlying63 rfl ti_63 (hAp.get rfl) (bz.ext hT.chg)) fun _ => Eq.refl _
      ·intro b7 cA ar b8 b9
       have ca := b8 [(2, pB f 0), (3, pB d 0), (6, .int .i64 b), (7, pB g 0), (8, pB j 0)] ⟨rfl, rfl, rfl, rfl, rfl, trivial⟩ (by kernel_rfl)
       have cb : b7.tmps.getD 73 undef = .agg #[.string (Bs q), .string (Bs y)] := b9 9 rfl 73 rfl
       have a4 := ca.add cb
       have cc := b3.ext ar
       have cd := bv.ext ar
       have cf := b2.ext ar
       have bA := b4.ext ar
       have cg := b5.more ar
       have cB := bz.ext ar
       refine one (D := aV) (i := 13) rfl (by kernel_rfl) (opk_store a4 bA (r_store (vs := [.string (Bs q), .string (Bs y)]) (a4.get rfl) (a4.get rfl) rfl ti_63 bA rfl (ones_all _ rfl)) fun cC aC aK ch ci => ?_)
       have cj : Box aC j 63 [.string (Bs q), .string (Bs y)] := ch
       have ck := cc.keep aK (by simpa using bq)
       have cl := cd.keep aK (by simpa using bt)
       have cm := cf.keep aK (by simpa using a2)
       have cn := cg.storeOld aK
       refine PR_end (by kernel_rfl) ?_
       have co := ci.kp [(2, pB f 0), (3, pB d 0), (6, .int .i64 b), (7, pB g 0), (8, pB j 0)] rfl
       refine gK (bs := [(j, 63, [.string (Bs q), .string (Bs y)]), (g, 63, [.string (Bs p), .string (Bs x)]), (d, 25, [.int .i64 al, .string (Bs ad), .string (Bs af), Sl.v k, Sl.v aA]), (f, 25, [.int .i64 ak, .string (Bs aa), .string (Bs ab), Sl.v l, Sl.v az])]) (N := []) co cn ⟨cj, cm, cl, ck, trivial⟩ (by simp [(Ne.symm a2), (Ne.symm bt), (Ne.symm bq), (Ne.symm bp), (Ne.symm bo), (Ne.symm bG)]) trivial (by simp) bV ?_
       refine tn <| gR <| gF 0 Tryz.underlying63 ti_9 ?_
       refine gB 1 tU9 ?_
       refine gF 0 Tryz.underlying63 ti_9 ?_
       refine gB 0 tU9 ?_
       refine g2 r_slss ?_
       refine gM ?_
       refine GF 0 Tryz.underlying63 ti_9 ?_
       refine GB 1 tU9 ?_
       refine GF 0 Tryz.underlying63 ti_9 ?_
       refine GB 0 tU9 ?_
       refine G2 r_seql ?_
       refine G1 r_move ?_
       refine GF 1 Tryz.underlying63 ti_9 ?_
       refine GB 1 tU9 ?_
       refine GF 1 Tryz.underlying63 ti_9 ?_
       refine GB 0 tU9 ?_
       refine G2 r_slss ?_
       refine Gpa ?_
       refine gpo ?_
       refine gF 0 Tryz.underlying63 ti_9 ?_
       refine gB 1 tU9 ?_
       refine gF 0 Tryz.underlying63 ti_9 ?_
       refine gB 0 tU9 ?_
       refine g2 r_sgtr ?_
       refine gM ?_
       refine GF 0 Tryz.underlying63 ti_9 ?_
       refine GB 1 tU9 ?_
       refine GF 0 Tryz.underlying63 ti_9 ?_
       refine GB 0 tU9 ?_
       refine G2 r_seql ?_
       refine G1 r_move ?_
       refine GF 1 Tryz.underlying63 ti_9 ?_
       refine GB 1 tU9 ?_
       refine GF 1 Tryz.underlying63 ti_9 ?_
       refine GB 0 tU9 ?_
       refine G2 r_sgtr ?_
       refine Gpa ?_
       refine gpo <| gT0 ?_
       refine gC [3, 2, 1, 0] Tryz.func30 fun _ aS => gE fun aD => gQ ?_
       refine gN <| ge <| bn <| tn <| gR ?_
       refine gM ?_
       refine g2s r_addI ?_
       refine gN <| ge ?_
       exact k2 [3, 2]
   ·refine gx <| te <| te <| bh <| tn <| gS <| gS <| gR <| gM ?_
    refine g2 r_eql <| ge <| tn ?_
    refine gi dT dF ?_ ?_
    ·refine gR <| gF 3 Tryz.underlying25 ti_22 ?_
     refine gB 0 tU22 ?_
     refine g1 (fun s => r_len s tU22) ?_
     refine gF 3 Tryz.underlying25 ti_22 ?_
     refine gB 1 tU22 ?_
     refine g1 (fun s => r_len s tU22) ?_
     refine g2 r_lss ?_
     refine gF 3 Tryz.underlying25 ti_22 ?_
     refine gB 0 tU22 ?_
     refine g1 (fun s => r_len s tU22) ?_
     refine gF 3 Tryz.underlying25 ti_22 ?_
     refine gB 1 tU22 ?_
     refine g1 (fun s => r_len s tU22) ?_
     refine g2 r_gtr ?_
     refine gC [0, 1] Tryz.func30 fun _ a8 => gE fun aU => gQ ?_
     refine gN <| ge <| tn <| gS <| gR ?_
     refine gM ?_
     refine gN <| ge <| tn <| gr ?_
     exact gz1
    ·refine gk <| tn <| gS <| gR <| gM ?_
     refine gN <| ge <| tn <| gr ?_
     exact gz1
def ref05_sign.vc (a : Bool) (b : Bool) (R : Value → World → Prop) (w : World) : Prop :=
((a = true) →
R (.int .i64 (-1)) w) ∧
((a = false) →
((b = true) →
R (.int .i64 1) w) ∧
((b = false) →
R (.int .i64 0) w))
theorem ref05_sign.ok (a : Bool) (b : Bool) {R : Value → World → Prop} {w : World} (c : ref05_sign.vc a b R w) : Calls Tryz.prog 30 #[.bool a, .bool b] w (Ret R) := by
 refine go _ Tryz.func30 Tryz.ntmps30 c ?_
 refine gS <| gR <| gN <| ge <| tn <| gS <| gb <| gS <| gR ?_
 refine gM ?_
 refine gN <| ge <| tn ?_
 refine gi id id ?_ ?_
 ·refine gS <| gR <| gN <| ge <| tn <| gr <| br <| tr ?_
  exact gz1
 ·refine gS <| gR <| gM ?_
  refine gN <| ge <| tn ?_
  refine gi id id ?_ ?_
  ·refine gS <| gR <| gN <| ge <| tn <| gr <| br <| tr ?_
   exact gz1
  ·refine gk <| bn <| tn <| gS <| gR <| gN <| ge <| tn <| gr ?_
   exact gz1
def ref05_Check.vc (a : Int) (b : Str) (c : Str) (d : Sl) (f : Sl) (R : Value → World → Prop) (w : World) : Prop :=
∀ (g : World) (n : Nat), New w n g → Chg [] w g →
∃ (h : Int), (((a = 1)) → Calls Tryz.prog 74 #[.agg #[.int .i64 a, .string (Bs b), .string (Bs c), Sl.v d, Sl.v f]] g (Ret fun v w' => Ext g w' ∧ v = .int .i64 h)) ∧
(∀ i : World, Ext g i →
∃ (k : Int), ((((a = 1) ∧ (h ≤ 300))) → Calls Tryz.prog 75 #[.agg #[.int .i64 a, .string (Bs b), .string (Bs c), Sl.v d, Sl.v f]] i (Ret fun v w' => Ext i w' ∧ v = .int .i64 k)) ∧
(∀ j : World, Ext i j →
∃ (l : Bool), (((((a = 1) ∧ (h ≤ 300)) ∧ (k ≤ 60))) → Calls Tryz.prog 76 #[.agg #[.int .i64 a, .string (Bs b), .string (Bs c), Sl.v d, Sl.v f], .bool true, .bool false] j (Ret fun v w' => Ext j w' ∧ v = .bool l)) ∧
(∀ m : World, Ext j m →
R (.bool ((((decide (a = 1)) && (decide (h ≤ 300))) && (decide (k ≤ 60))) && l)) m)))
theorem ref05_Check.ok (a : Int) (b : Str) (c : Str) (d : Sl) (f : Sl) {R : Value → World → Prop} {w : World} (o : ref05_Check.vc a b c d f R w) : Calls Tryz.prog 49 #[.agg #[.int .i64 a, .string (Bs b), .string (Bs c), Sl.v d, Sl.v f]] w (Ret R) := by
 refine go _ Tryz.func49 Tryz.ntmps49 o ?_
 refine gS <| gR <| nb fun g n => ?_
 refine gN <| ge <| tn <| gS <| gR ?_
 refine gF 0 Tryz.underlying25 ti_3 ?_
 refine gB 0 tU3 ?_
 refine g2 r_eql ?_
 refine gM ?_
 refine GBN 0 5 Tryz.underlying25 ti_25 <| gT1 ?_
 refine gE fun h => GC Tryz.func74 (fun hg => (dT (g_t hg))) fun i => ?_
 refine G2 r_leq ?_
 refine gpa ?_
 refine gM ?_
 refine GBN 0 5 Tryz.underlying25 ti_25 ?_
 refine gE fun k => GC Tryz.func75 (fun hg => ⟨(dT (aT (g_t hg)).1), (dT (aT (g_t hg)).2)⟩) fun j => ?_
 refine G2 r_leq ?_
 refine gpa ?_
 refine gM ?_
 refine GBN 0 5 Tryz.underlying25 ti_25 ?_
 refine gE fun l => GC Tryz.func76 (fun hg => ⟨⟨(dT (aT (aT (g_t hg)).1).1), (dT (aT (aT (g_t hg)).1).2)⟩, (dT (aT (g_t hg)).2)⟩) fun m => ?_
 refine gpa ?_
 refine gN <| ge <| tn <| gr ?_
 exact gz1
def ref05_Size.vc (j : Int) (k : Str) (l : Str) (m : Sl) (d : Sl) (R : Value → World → Prop) (w : World) : Prop :=
∀ (h : World) (i : Nat), New w i h → Chg [] w h →
∃ (o : Int → Int → World → Prop) (y : Int → Int → World → Nat),
o 1 0 h ∧
(∀ (c : Int) (b : Int) (f : World), o c b f →
((b < (d.n : Int)) →
((0 : Int) ≤ b ∧ b < (d.n : Int)) ∧ ∃ p : Addr, d.a = some p ∧
∃ (q : Int) (r : Str) (s : Str) (t : Sl) (u : Sl), (Cells f (p.add (b.toNat * 5)) [.int .i64 q, .string (Bs r), .string (Bs s), Sl.v t, Sl.v u]) ∧
CallK Tryz.prog 74 #[.agg #[.int .i64 q, .string (Bs r), .string (Bs s), Sl.v t, Sl.v u]] f [i] (fun v x => ∃ (g : Int), v = .int .i64 g ∧
(I64 (c + g)) ∧
(I64 (b + 1)) ∧
o (c + g) (b + 1) x ∧ y (c + g) (b + 1) x < y c b f)) ∧
((¬ (b < (d.n : Int))) →
R (.int .i64 c) f))
theorem ref05_Size.ok (j : Int) (k : Str) (l : Str) (m : Sl) (d : Sl) {R : Value → World → Prop} {w : World} (z : ref05_Size.vc j k l m d R w) : Calls Tryz.prog 74 #[.agg #[.int .i64 j, .string (Bs k), .string (Bs l), Sl.v m, Sl.v d]] w (Ret R) := by
 refine go _ Tryz.func74 Tryz.ntmps74 z ?_
 refine gS <| gR <| nb fun h i => ?_
 refine gN <| ge <| tn <| gS <| gR ?_
 refine gN <| ge <| tn <| gS <| gS <| gR ?_
 refine gN <| ge <| tn <| gb <| gT1 <| gE fun _ => gE fun mu => ?_
 refine l2 mu (fun c b => [(3, .int .i64 c), (4, .int .i64 b)]) [(1, _)] (fun _ _ => []) [(i, _, _)] [0] fun c b f _ => gS <| gS <| gR ?_
 refine gM ?_
 refine gF 4 Tryz.underlying25 ti_23 ?_
 refine gB 0 tU23 ?_
 refine g1 (fun aa => r_len aa tU23) ?_
 refine g2 r_lss <| ge <| tn ?_
 refine gi dT dF ?_ ?_
 ·refine gk <| tn <| gS <| gb <| gR <| gM ?_
  refine gF 4 Tryz.underlying25 ti_23 ?_
  refine gB 0 tU23 ?_
  refine gM ?_
  refine gI1 tU23 ti_25 fun p => ?_
  refine gE fun q => gE fun r => gE fun s => gE fun t => gE fun u => gLN Tryz.underlying25 ti_25 ?_
  refine gC [0] Tryz.func74 fun _ x => gE fun g => gQ ?_
  refine g2s r_addI ?_
  refine gN <| ge <| bn <| tn <| gR ?_
  refine gM ?_
  refine g2s r_addI ?_
  refine gN <| ge ?_
  exact k2 [0]
 ·refine gx <| te <| te <| bh <| tn <| gS <| gR <| gM ?_
  refine gN <| ge <| tn <| gr ?_
  exact gz1
def ref05_Depth.vc (j : Int) (k : Str) (l : Str) (m : Sl) (d : Sl) (R : Value → World → Prop) (w : World) : Prop :=
∀ (g : World) (h : Nat), New w h g → Chg [] w g →
∃ (o : Int → Int → World → Prop) (y : Int → Int → World → Nat),
o 0 0 g ∧
(∀ (c : Int) (b : Int) (f : World), o c b f →
((b < (d.n : Int)) →
((0 : Int) ≤ b ∧ b < (d.n : Int)) ∧ ∃ p : Addr, d.a = some p ∧
∃ (q : Int) (r : Str) (s : Str) (t : Sl) (u : Sl), (Cells f (p.add (b.toNat * 5)) [.int .i64 q, .string (Bs r), .string (Bs s), Sl.v t, Sl.v u]) ∧
CallK Tryz.prog 75 #[.agg #[.int .i64 q, .string (Bs r), .string (Bs s), Sl.v t, Sl.v u]] f [h] (fun v x => ∃ (i : Int), v = .int .i64 i ∧
(I64 (b + 1)) ∧
o (max c i) (b + 1) x ∧ y (max c i) (b + 1) x < y c b f)) ∧
((¬ (b < (d.n : Int))) →
(I64 (c + 1)) ∧
R (.int .i64 (c + 1)) f))
theorem ref05_Depth.ok (j : Int) (k : Str) (l : Str) (m : Sl) (d : Sl) {R : Value → World → Prop} {w : World} (z : ref05_Depth.vc j k l m d R w) : Calls Tryz.prog 75 #[.agg #[.int .i64 j, .string (Bs k), .string (Bs l), Sl.v m, Sl.v d]] w (Ret R) := by
 refine go _ Tryz.func75 Tryz.ntmps75 z ?_
 refine gS <| gR <| nb fun g h => ?_
 refine gN <| ge <| tn <| gS <| gR ?_
 refine gN <| ge <| tn <| gS <| gS <| gR ?_
 refine gN <| ge <| tn <| gb <| gT1 <| gE fun _ => gE fun mu => ?_
 refine l2 mu (fun c b => [(3, .int .i64 c), (4, .int .i64 b)]) [(1, _)] (fun _ _ => []) [(h, _, _)] [0] fun c b f _ => gS <| gS <| gR ?_
 refine gM ?_
 refine gF 4 Tryz.underlying25 ti_23 ?_
 refine gB 0 tU23 ?_
 refine g1 (fun aa => r_len aa tU23) ?_
 refine g2 r_lss <| ge <| tn ?_
 refine gi dT dF ?_ ?_
 ·refine gk <| tn <| gS <| gb <| gR <| gM ?_
  refine gF 4 Tryz.underlying25 ti_23 ?_
  refine gB 0 tU23 ?_
  refine gM ?_
  refine gI1 tU23 ti_25 fun p => ?_
  refine gE fun q => gE fun r => gE fun s => gE fun t => gE fun u => gLN Tryz.underlying25 ti_25 ?_
  refine gC [0] Tryz.func75 fun _ x => gE fun i => gQ ?_
  refine g2 r_max ?_
  refine gN <| ge <| bn <| tn <| gR ?_
  refine gM ?_
  refine g2s r_addI ?_
  refine gN <| ge ?_
  exact k2 [0]
 ·refine gx <| te <| te <| bh <| tn <| gS <| gR <| gM ?_
  refine g2s r_addI ?_
  refine gN <| ge <| tn <| gr ?_
  exact gz1
def ref05_all.vc (g : Int) (k : Str) (l : Str) (m : Sl) (c : Sl) (o : Bool) (p : Bool) (R : Value → World → Prop) (w : World) : Prop :=
∀ (q : World) (r : Nat), New w r q → Chg [] w q →
CallK Tryz.prog 78 #[.agg #[.int .i64 g, .string (Bs k), .string (Bs l), Sl.v m, Sl.v c], .bool o, .bool p] q [r] (fun v t => ∃ (s : Bool), v = .bool s ∧
((s = false) →
R (.bool false) t) ∧
((s = true) →
∃ (u : Int → World → Prop) (af : Int → World → Nat),
u 0 t ∧
(∀ (b : Int) (i : World), u b i →
((b < (c.n : Int)) →
∀ (f : World), Chg [] i f →
∃ x : Addr, (((0 : Int) ≤ b ∧ b < (c.n : Int)) ∧ c.a = some x) ∧
∃ (y : Int) (z : Str) (aa : Str) (ab : Sl) (ad : Sl), (Cells f (x.add (b.toNat * 5)) [.int .i64 y, .string (Bs z), .string (Bs aa), Sl.v ab, Sl.v ad]) ∧
∃ (j : Bool), (∀ w' : World, Ext f w' → Calls Tryz.prog 76 #[.agg #[.int .i64 y, .string (Bs z), .string (Bs aa), Sl.v ab, Sl.v ad], .bool false, .bool (decide (g = 1))] w' (Ret fun v w'' => Ext w' w'' ∧ v = .bool j)) ∧
((j = false) →
∀ (d : World), Chg [] f d →
R (.bool false) d) ∧
((j = true) →
(I64 (b + 1)) ∧
∀ (d : World), Chg [] f d →
u (b + 1) d ∧ af (b + 1) d < af b i)) ∧
((¬ (b < (c.n : Int))) →
R (.bool true) i))))
theorem ref05_all.ok (g : Int) (k : Str) (l : Str) (m : Sl) (c : Sl) (o : Bool) (p : Bool) {R : Value → World → Prop} {w : World} (ag : ref05_all.vc g k l m c o p R w) : Calls Tryz.prog 76 #[.agg #[.int .i64 g, .string (Bs k), .string (Bs l), Sl.v m, Sl.v c], .bool o, .bool p] w (Ret R) := by
 refine go _ Tryz.func76 Tryz.ntmps76 ag ?_
 refine gS <| gR <| nb fun q r => ?_
 refine gN <| ge <| tn <| gS <| gS <| gR ?_
 refine gBN 0 5 Tryz.underlying25 ti_25 ?_
 refine gM ?_
 refine gM <| gT1 ?_
 refine gC [0] Tryz.func78 fun _ t => gE fun s => gQ ?_
 refine g1 r_not <| ge <| tn ?_
 refine gi nT nF ?_ ?_
 ·refine gS <| gR <| gN <| ge <| tn <| gr <| tr ?_
  exact gz1
 ·refine gk <| tn <| gS <| gS <| gR <| gN <| ge <| tn <| gb <| gE fun _ => gE fun mu => ?_
  refine l1 mu (fun b => [(7, .int .i64 b)]) [(3, _)] (fun _ => []) [(r, _, _)] [0] fun b i _ => gS <| gS <| gR ?_
  refine gM ?_
  refine gF 4 Tryz.underlying25 ti_23 ?_
  refine gB 0 tU23 ?_
  refine g1 (fun ah => r_len ah tU23) ?_
  refine g2 r_lss <| ge <| tn ?_
  refine gi dT dF ?_ ?_
  ·refine gk <| tn <| gS <| gb <| gS <| gD fun f => gT0 <| gE fun x => gA fun ai => gE fun y => gE fun z => gE fun aa => gE fun ab => gE fun ad => gA fun aj => gE fun j => gA fun ak => ?_
   refine gW 0 10 [(8, rsU (.bool j))] ?_
   refine gF 4 Tryz.underlying25 ti_23 ?_
   refine gB 0 tU23 ?_
   refine gM ?_
   refine gIx tU23 ti_25 ai ?_
   refine gP aj <| gLN Tryz.underlying25 ti_25 ?_
   refine gF 0 Tryz.underlying25 ti_3 ?_
   refine gB 0 tU3 ?_
   refine g2 r_eql ?_
   refine yc rfl Tryz.func76 (fun w' hE _ => ak w' hE) (fun _ _ h => ⟨(), h, trivial⟩) fun _ => ?_
   refine g1 r_not ?_
   refine eT fun d => ?_
   refine gZ <| tn ?_
   refine gi nT nF ?_ ?_
   ·refine gS <| gR <| gN <| ge <| tn <| gr <| br <| tr <| tr <| br <| tr <| gT0 ?_
    exact gz1
   ·refine gk <| bn <| tn <| gR <| gM ?_
    refine g2s r_addI ?_
    refine gN <| ge <| gT0 ?_
    exact k1 [0]
  ·refine gx <| te <| te <| bh <| tn <| gS <| gR <| gN <| ge <| tn <| gr ?_
   exact gz1
def ref05_May.vc (c : Int) (g : Str) (f : Str) (h : Sl) (i : Sl) (j : Bool) (k : Bool) (R : Value → World → Prop) (w : World) : Prop :=
((c = 1) →
∀ (a : World) (d : Nat), New w d a → Chg [] w a →
R (.bool (((j && (decide (g = ([] : Str)))) && (decide (f = ([] : Str)))) && (decide ((h.n : Int) = 0)))) a) ∧
((¬ (c = 1)) →
((c = 2) →
∀ (a : World) (d : Nat), New w d a → Chg [] w a →
CallK Tryz.prog 85 #[.string (Bs g)] a [d] (fun v l => ∃ (m : Bool), v = .bool m ∧
∃ (o : Bool), ((((m = true) ∧ (f = ([] : Str)))) → Calls Tryz.prog 102 #[Sl.v h] l (Ret fun v w' => Ext l w' ∧ v = .bool o)) ∧
(∀ p : World, Ext l p →
R (.bool ((m && (decide (f = ([] : Str)))) && o)) p))) ∧
((¬ (c = 2)) →
((c = 3) →
∀ (a : World) (d : Nat), New w d a → Chg [] w a →
R (.bool (((((decide (g = ([] : Str))) && (decide ((h.n : Int) = 0))) && (decide ((i.n : Int) = 0))) && (decide (1 ≤ (f.length : Int)))) && (decide ((f.length : Int) ≤ 4096)))) a) ∧
((¬ (c = 3)) →
((c = 4) →
∀ (a : World) (d : Nat), New w d a → Chg [] w a →
R (.bool ((((decide (g = ([] : Str))) && (decide ((h.n : Int) = 0))) && (decide ((i.n : Int) = 0))) && (decide ((f.length : Int) ≤ 4096)))) a) ∧
((¬ (c = 4)) →
((c = 5) →
∀ (a : World) (d : Nat), New w d a → Chg [] w a →
R (.bool ((((k && (decide ((g.length : Int) ≤ 32))) && (decide (f = ([] : Str)))) && (decide ((h.n : Int) = 0))) && (decide ((i.n : Int) = 0)))) a) ∧
((¬ (c = 5)) →
∀ (a : World) (d : Nat), New w d a → Chg [] w a →
R (.bool false) a)))))
theorem ref05_May.ok (c : Int) (g : Str) (f : Str) (h : Sl) (i : Sl) (j : Bool) (k : Bool) {R : Value → World → Prop} {w : World} (q : ref05_May.vc c g f h i j k R w) : Calls Tryz.prog 78 #[.agg #[.int .i64 c, .string (Bs g), .string (Bs f), Sl.v h, Sl.v i], .bool j, .bool k] w (Ret R) := by
 refine go _ Tryz.func78 Tryz.ntmps78 q ?_
 refine gS <| gR <| nb fun a d => ?_
 refine gN <| ge <| tn <| gS <| gS <| gR ?_
 refine gF 0 Tryz.underlying25 ti_3 ?_
 refine gB 0 tU3 <| ge <| tn <| gb <| gS <| gR ?_
 refine g2 r_eql ?_
 refine gN <| ge <| tn ?_
 refine gi dT dF ?_ ?_
 ·refine gS <| gR <| gM ?_
  refine gM ?_
  refine GF 1 Tryz.underlying25 ti_9 ?_
  refine GB 0 tU9 ?_
  refine G2 r_seql ?_
  refine gpa ?_
  refine gM ?_
  refine GF 2 Tryz.underlying25 ti_9 ?_
  refine GB 0 tU9 ?_
  refine G2 r_seql ?_
  refine gpa ?_
  refine gM ?_
  refine GF 3 Tryz.underlying25 ti_22 ?_
  refine GB 0 tU22 ?_
  refine G1 (fun b => r_len b tU22) ?_
  refine G2 r_eql ?_
  refine gpa ?_
  refine gN <| ge <| tn <| gr <| br <| tr <| gT1 ?_
  exact gz1
 ·refine gS <| gR <| g2 r_eql ?_
  refine gN <| ge <| tn ?_
  refine gi dT dF ?_ ?_
  ·refine gS <| gR <| gF 1 Tryz.underlying25 ti_9 ?_
   refine gB 0 tU9 <| gT1 ?_
   refine gC [0] Tryz.func85 fun _ l => gE fun m => gQ ?_
   refine gM ?_
   refine GF 2 Tryz.underlying25 ti_9 ?_
   refine GB 0 tU9 ?_
   refine G2 r_seql ?_
   refine gpa ?_
   refine gM ?_
   refine GF 3 Tryz.underlying25 ti_22 ?_
   refine GB 0 tU22 ?_
   refine gE fun o => GC Tryz.func102 (fun hg => ⟨(aT (g_t hg)).1, (dT (aT (g_t hg)).2)⟩) fun p => ?_
   refine gpa ?_
   refine gN <| ge <| tn <| gr <| br <| tr ?_
   exact gz1
  ·refine gS <| gR <| g2 r_eql ?_
   refine gN <| ge <| tn ?_
   refine gi dT dF ?_ ?_
   ·refine gS <| gR <| gF 1 Tryz.underlying25 ti_9 ?_
    refine gB 0 tU9 ?_
    refine g2 r_seql ?_
    refine gM ?_
    refine GF 3 Tryz.underlying25 ti_22 ?_
    refine GB 0 tU22 ?_
    refine G1 (fun b => r_len b tU22) ?_
    refine G2 r_eql ?_
    refine gpa ?_
    refine gM ?_
    refine GF 4 Tryz.underlying25 ti_23 ?_
    refine GB 0 tU23 ?_
    refine G1 (fun b => r_len b tU23) ?_
    refine G2 r_eql ?_
    refine gpa ?_
    refine gM ?_
    refine GF 2 Tryz.underlying25 ti_9 ?_
    refine GB 0 tU9 ?_
    refine G1 (fun b => r_slen b tU9) ?_
    refine G2 r_geq ?_
    refine gpa ?_
    refine gM ?_
    refine GF 2 Tryz.underlying25 ti_9 ?_
    refine GB 0 tU9 ?_
    refine G1 (fun b => r_slen b tU9) ?_
    refine G2 r_leq ?_
    refine gpa ?_
    refine gN <| ge <| tn <| gr <| br <| tr <| gT1 ?_
    exact gz1
   ·refine gS <| gR <| g2 r_eql ?_
    refine gN <| ge <| tn ?_
    refine gi dT dF ?_ ?_
    ·refine gS <| gR <| gF 1 Tryz.underlying25 ti_9 ?_
     refine gB 0 tU9 ?_
     refine g2 r_seql ?_
     refine gM ?_
     refine GF 3 Tryz.underlying25 ti_22 ?_
     refine GB 0 tU22 ?_
     refine G1 (fun b => r_len b tU22) ?_
     refine G2 r_eql ?_
     refine gpa ?_
     refine gM ?_
     refine GF 4 Tryz.underlying25 ti_23 ?_
     refine GB 0 tU23 ?_
     refine G1 (fun b => r_len b tU23) ?_
     refine G2 r_eql ?_
     refine gpa ?_
     refine gM ?_
     refine GF 2 Tryz.underlying25 ti_9 ?_
     refine GB 0 tU9 ?_
     refine G1 (fun b => r_slen b tU9) ?_
     refine G2 r_leq ?_
     refine gpa ?_
     refine gN <| ge <| tn <| gr <| br <| tr <| gT1 ?_
     exact gz1
    ·refine gS <| gR <| g2 r_eql ?_
     refine gN <| ge <| tn ?_
     refine gi dT dF ?_ ?_
     ·refine gS <| gR <| gM ?_
      refine gM ?_
      refine GF 1 Tryz.underlying25 ti_9 ?_
      refine GB 0 tU9 ?_
      refine G1 (fun b => r_slen b tU9) ?_
      refine G2 r_leq ?_
      refine gpa ?_
      refine gM ?_
      refine GF 2 Tryz.underlying25 ti_9 ?_
      refine GB 0 tU9 ?_
      refine G2 r_seql ?_
      refine gpa ?_
      refine gM ?_
      refine GF 3 Tryz.underlying25 ti_22 ?_
      refine GB 0 tU22 ?_
      refine G1 (fun b => r_len b tU22) ?_
      refine G2 r_eql ?_
      refine gpa ?_
      refine gM ?_
      refine GF 4 Tryz.underlying25 ti_23 ?_
      refine GB 0 tU23 ?_
      refine G1 (fun b => r_len b tU23) ?_
      refine G2 r_eql ?_
      refine gpa ?_
      refine gN <| ge <| tn <| gr <| br <| tr <| gT1 ?_
      exact gz1
     ·refine gk <| bn <| tn <| gS <| gR <| gN <| ge <| tn <| gr <| gT1 ?_
      exact gz1
def ref05_Attr.vc (c : Sl) (f : Str) (R : Value → World → Prop) (w : World) : Prop :=
∃ (h : Int → World → Prop) (l : Int → World → Nat),
h 0 w ∧
(∀ (b : Int) (d : World), h b d →
((b < (c.n : Int)) →
((0 : Int) ≤ b ∧ b < (c.n : Int)) ∧ ∃ i : Addr, c.a = some i ∧
∃ (g : Str), (d.cell? ((i.add (b.toNat * 2)).add 0) = some (.string (Bs g))) ∧
((g = f) →
((0 : Int) ≤ b ∧ b < (c.n : Int)) ∧ ∃ j : Addr, c.a = some j ∧
∃ (k : Str), (d.cell? ((j.add (b.toNat * 2)).add 1) = some (.string (Bs k))) ∧
R (.tuple #[.string (Bs k), .bool true]) d) ∧
((¬ (g = f)) →
(I64 (b + 1)) ∧
h (b + 1) d ∧ l (b + 1) d < l b d)) ∧
((¬ (b < (c.n : Int))) →
R (.tuple #[.string (Bs []), .bool false]) d))
theorem ref05_Attr.ok (c : Sl) (f : Str) {R : Value → World → Prop} {w : World} (m : ref05_Attr.vc c f R w) : Calls Tryz.prog 84 #[Sl.v c, .string (Bs f)] w (Ret R) := by
 refine go _ Tryz.func84 Tryz.ntmps84 m ?_
 refine gS <| gR <| gN ?_
 refine gN <| ge <| tn <| gS <| gS <| gR ?_
 refine gN <| ge <| tn <| gb <| gE fun _ => gE fun mu => ?_
 refine l1 mu (fun b => [(6, .int .i64 b)]) [(0, _), (1, _)] (fun _ => []) [] [] fun b d _ => gS <| gS <| gR ?_
 refine gM ?_
 refine gM ?_
 refine g1 (fun o => r_len o tU22) ?_
 refine g2 r_lss <| ge <| tn ?_
 refine gi dT dF ?_ ?_
 ·refine gk <| tn <| gS <| gb <| gS <| gR <| gM ?_
  refine gM ?_
  refine gI1 tU22 ti_63 fun i => ?_
  refine gF 0 Tryz.underlying63 ti_9 ?_
  refine gE fun g => gL tU9 ?_
  refine gM ?_
  refine g2 r_seql <| ge <| tn ?_
  refine gi dT dF ?_ ?_
  ·refine gS <| gR <| gM ?_
   refine gM ?_
   refine gI1 tU22 ti_63 fun j => ?_
   refine gF 1 Tryz.underlying63 ti_9 ?_
   refine gE fun k => gL tU9 ?_
   refine gN ?_
   refine gN <| ge <| tn <| gr <| br <| tr <| tr <| br <| tr ?_
   exact gz2
  ·refine gk <| bn <| tn <| gR <| gM ?_
   refine g2s r_addI ?_
   refine gN <| ge ?_
   exact k1 []
 ·refine gx <| te <| te <| bh <| tn <| gS <| gR <| gN ?_
  refine gN <| ge <| tn <| gr ?_
  exact gz2
def ref05_Name.vc (b : Str) (R : Value → World → Prop) (w : World) : Prop :=
((((b.length : Int) < 1) ∨ (32 < (b.length : Int))) →
R (.bool false) w) ∧
(((¬ ((b.length : Int) < 1)) ∧ (¬ (32 < (b.length : Int)))) →
∃ (i : Int → World → Prop) (j : Int → World → Nat),
i 0 w ∧
(∀ (a : Int) (d : World), i a d →
((a < (b.length : Int)) →
((0 : Int) ≤ a ∧ a < (b.length : Int)) ∧
CallK Tryz.prog 103 #[.int .u8 ((b.getD a.toNat 0).toNat : Int)] d [] (fun v f => ∃ (g : Bool), v = .bool g ∧
((((((((((g = true) ∨ (((b.getD a.toNat 0).toNat : Int) = 0)) ∨ (((b.getD a.toNat 0).toNat : Int) = 34)) ∨ (((b.getD a.toNat 0).toNat : Int) = 39)) ∨ (((b.getD a.toNat 0).toNat : Int) = 62)) ∨ (((b.getD a.toNat 0).toNat : Int) = 47)) ∨ (((b.getD a.toNat 0).toNat : Int) = 61)) ∨ (((b.getD a.toNat 0).toNat : Int) = 60)) ∨ ((65 ≤ ((b.getD a.toNat 0).toNat : Int)) ∧ (((b.getD a.toNat 0).toNat : Int) ≤ 90))) →
R (.bool false) f) ∧
((((((((((g = false) ∧ (¬ (((b.getD a.toNat 0).toNat : Int) = 0))) ∧ (¬ (((b.getD a.toNat 0).toNat : Int) = 34))) ∧ (¬ (((b.getD a.toNat 0).toNat : Int) = 39))) ∧ (¬ (((b.getD a.toNat 0).toNat : Int) = 62))) ∧ (¬ (((b.getD a.toNat 0).toNat : Int) = 47))) ∧ (¬ (((b.getD a.toNat 0).toNat : Int) = 61))) ∧ (¬ (((b.getD a.toNat 0).toNat : Int) = 60))) ∧ ((¬ (65 ≤ ((b.getD a.toNat 0).toNat : Int))) ∨ (¬ (((b.getD a.toNat 0).toNat : Int) ≤ 90)))) →
(I64 (a + 1)) ∧
i (a + 1) f ∧ j (a + 1) f < j a d))) ∧
((¬ (a < (b.length : Int))) →
R (.bool true) d)))
theorem ref05_Name.ok (b : Str) {R : Value → World → Prop} {w : World} (k : ref05_Name.vc b R w) : Calls Tryz.prog 85 #[.string (Bs b)] w (Ret R) := by
 refine go _ Tryz.func85 Tryz.ntmps85 k ?_
 refine gS <| gR <| gN <| ge <| tn <| gS <| gS <| gR ?_
 refine gM ?_
 refine g1 (fun c => r_slen c tU9) ?_
 refine g2 r_lss ?_
 refine gM ?_
 refine G1 r_move ?_
 refine G1 (fun c => r_slen c tU9) ?_
 refine G2 r_gtr ?_
 refine gpo <| ge <| tn ?_
 refine gi (fun h => ((oT h).imp (fun h => (dT h)) (fun h => (dT h)))) (fun h => ⟨(dF (oF h).1), (dF (oF h).2)⟩) ?_ ?_
 ·refine gS <| gR <| gN <| ge <| tn <| gr <| tr ?_
  exact gz1
 ·refine gk <| tn <| gS <| gS <| gR <| gN <| ge <| tn <| gb <| gE fun _ => gE fun mu => ?_
  refine l1 mu (fun a => [(3, .int .i64 a)]) [(0, _)] (fun _ => []) [] [] fun a d _ => gS <| gS <| gR ?_
  refine gM ?_
  refine gM ?_
  refine g1 (fun c => r_slen c tU9) ?_
  refine g2 r_lss <| ge <| tn ?_
  refine gi dT dF ?_ ?_
  ·refine gk <| tn <| gS <| gb <| gS <| gR <| gM ?_
   refine gM ?_
   refine g2s (fun c l h => r_sindex c l tU9 h) ?_
   refine gN <| ge <| tn <| gS <| gR ?_
   refine gM ?_
   refine gC [] Tryz.func103 fun _ f => gE fun g => gQ ?_
   refine gM ?_
   refine G1 r_move ?_
   refine G2 r_eql ?_
   refine gpo ?_
   refine gM ?_
   refine G1 r_move ?_
   refine G2 r_eql ?_
   refine gpo ?_
   refine gM ?_
   refine G1 r_move ?_
   refine G2 r_eql ?_
   refine gpo ?_
   refine gM ?_
   refine G1 r_move ?_
   refine G2 r_eql ?_
   refine gpo ?_
   refine gM ?_
   refine G1 r_move ?_
   refine G2 r_eql ?_
   refine gpo ?_
   refine gM ?_
   refine G1 r_move ?_
   refine G2 r_eql ?_
   refine gpo ?_
   refine gM ?_
   refine G1 r_move ?_
   refine G2 r_eql ?_
   refine gpo ?_
   refine gM ?_
   refine G1 r_move ?_
   refine G2 r_geq ?_
   refine G1 r_move ?_
   refine G1 r_move ?_
   refine G2 r_leq ?_
   refine Gpa ?_
   refine gpo <| ge <| tn ?_
   refine gi (fun h => ((oT h).imp (fun h => ((oT h).imp (fun h => ((oT h).imp (fun h => ((oT h).imp (fun h => ((oT h).imp (fun h => ((oT h).imp (fun h => ((oT h).imp (fun h => ((oT h).imp (fun h => h) (fun h => (dT h)))) (fun h => (dT h)))) (fun h => (dT h)))) (fun h => (dT h)))) (fun h => (dT h)))) (fun h => (dT h)))) (fun h => (dT h)))) (fun h => ⟨(dT (aT h).1), (dT (aT h).2)⟩))) (fun h => ⟨⟨⟨⟨⟨⟨⟨⟨(oF (oF (oF (oF (oF (oF (oF (oF h).1).1).1).1).1).1).1).1, (dF (oF (oF (oF (oF (oF (oF (oF (oF h).1).1).1).1).1).1).1).2)⟩, (dF (oF (oF (oF (oF (oF (oF (oF h).1).1).1).1).1).1).2)⟩, (dF (oF (oF (oF (oF (oF (oF h).1).1).1).1).1).2)⟩, (dF (oF (oF (oF (oF (oF h).1).1).1).1).2)⟩, (dF (oF (oF (oF (oF h).1).1).1).2)⟩, (dF (oF (oF (oF h).1).1).2)⟩, (dF (oF (oF h).1).2)⟩, ((aF (oF h).2).imp (fun h => (dF h)) (fun h => (dF h)))⟩) ?_ ?_
   ·refine gS <| gR <| gN <| ge <| tn <| gr <| br <| tr <| tr <| br <| tr ?_
    exact gz1
   ·refine gk <| bn <| tn <| gR <| gM ?_
    refine g2s r_addI ?_
    refine gN <| ge ?_
    exact k1 []
  ·refine gx <| te <| te <| bh <| tn <| gS <| gR <| gN <| ge <| tn <| gr ?_
   exact gz1
def ref05_attrs.vc (c : Sl) (R : Value → World → Prop) (w : World) : Prop :=
((12 < (c.n : Int)) →
R (.bool false) w) ∧
((¬ (12 < (c.n : Int))) →
∃ (o : Int → World → Prop) (u : Int → World → Nat),
o 0 w ∧
(∀ (b : Int) (l : World), o b l →
((b < (c.n : Int)) →
∀ (f : World), Chg [] l f →
∃ p : Addr, (((0 : Int) ≤ b ∧ b < (c.n : Int)) ∧ c.a = some p) ∧
∃ (q : Str), (f.cell? ((p.add (b.toNat * 2)).add 0) = some (.string (Bs q))) ∧
∃ (d : Bool), (∀ w' : World, Ext f w' → Calls Tryz.prog 85 #[.string (Bs q)] w' (Ret fun v w'' => Ext w' w'' ∧ v = .bool d)) ∧
∃ r : Addr, (((d = true)) → ((0 : Int) ≤ b ∧ b < (c.n : Int)) ∧ c.a = some r) ∧
∃ (g : Str), (((d = true)) → f.cell? ((r.add (b.toNat * 2)).add 1) = some (.string (Bs g))) ∧
∃ s : Addr, ((((d = true) ∧ (¬ (4096 < (g.length : Int)))) ∧ (0 < b)) → ((0 : Int) ≤ b ∧ b < (c.n : Int)) ∧ c.a = some s) ∧
∃ (j : Str), ((((d = true) ∧ (¬ (4096 < (g.length : Int)))) ∧ (0 < b)) → f.cell? ((s.add (b.toNat * 2)).add 0) = some (.string (Bs j))) ∧
((((d = true) ∧ (¬ (4096 < (g.length : Int)))) ∧ (0 < b)) → I64 (b - 1)) ∧
∃ t : Addr, ((((d = true) ∧ (¬ (4096 < (g.length : Int)))) ∧ (0 < b)) → ((0 : Int) ≤ b - 1 ∧ b - 1 < (c.n : Int)) ∧ c.a = some t) ∧
∃ (k : Str), ((((d = true) ∧ (¬ (4096 < (g.length : Int)))) ∧ (0 < b)) → f.cell? ((t.add ((b - 1).toNat * 2)).add 0) = some (.string (Bs k))) ∧
((((d = false) ∨ (4096 < (g.length : Int))) ∨ ((0 < b) ∧ (((Op.bytesLess j k) = true) ∨ (j = k)))) →
∀ (i : World), Chg [] f i →
R (.bool false) i) ∧
((((d = true) ∧ (¬ (4096 < (g.length : Int)))) ∧ ((¬ (0 < b)) ∨ (((Op.bytesLess j k) = false) ∧ (¬ (j = k))))) →
(I64 (b + 1)) ∧
∀ (i : World), Chg [] f i →
o (b + 1) i ∧ u (b + 1) i < u b l)) ∧
((¬ (b < (c.n : Int))) →
R (.bool true) l)))
theorem ref05_attrs.ok (c : Sl) {R : Value → World → Prop} {w : World} (x : ref05_attrs.vc c R w) : Calls Tryz.prog 102 #[Sl.v c] w (Ret R) := by
 refine go _ Tryz.func102 Tryz.ntmps102 x ?_
 refine gS <| gR <| gN <| ge <| tn <| gS <| gS <| gR ?_
 refine gM ?_
 refine g1 (fun m => r_len m tU22) ?_
 refine g2 r_gtr <| ge <| tn ?_
 refine gi dT dF ?_ ?_
 ·refine gS <| gR <| gN <| ge <| tn <| gr <| tr ?_
  exact gz1
 ·refine gk <| tn <| gS <| gS <| gR <| gN <| ge <| tn <| gb <| gE fun _ => gE fun mu => ?_
  refine l1 mu (fun b => [(3, .int .i64 b)]) [(0, _)] (fun _ => []) [] [] fun b l _ => gS <| gS <| gR ?_
  refine gM ?_
  refine gM ?_
  refine g1 (fun m => r_len m tU22) ?_
  refine g2 r_lss <| ge <| tn ?_
  refine gi dT dF ?_ ?_
  ·refine gk <| tn <| gS <| gb <| gS <| gD fun f => gT0 <| gE fun p => gA fun y => gE fun q => gA fun z => gE fun d => gA fun aa => gE fun r => gA fun ab => gE fun g => gA fun ad => gE fun s => gA fun af => gE fun j => gA fun ag => gA fun ah => gE fun t => gA fun ai => gE fun k => gA fun aj => ?_
   refine gW 0 34 [(5, rsU (.bool d))] ?_
   refine gM ?_
   refine gM ?_
   refine gIx tU22 ti_63 y ?_
   refine gF 0 Tryz.underlying63 ti_9 ?_
   refine gP z <| gL tU9 ?_
   refine yc rfl Tryz.func85 (fun w' hE _ => aa w' hE) (fun _ _ h => ⟨(), h, trivial⟩) fun _ => ?_
   refine g1 r_not ?_
   refine gM ?_
   refine G1 r_move ?_
   refine G1 r_move ?_
   refine GIx tU22 ti_63 (fun hg => ab (nF (g_f hg))) ?_
   refine GF 1 Tryz.underlying63 ti_9 ?_
   refine gP ad <| GLd tU9 (fun hg => (nF (g_f hg))) ?_
   refine G1 (fun m => r_slen m tU9) ?_
   refine G2 r_gtr ?_
   refine gpo ?_
   refine gM ?_
   refine G1 r_move ?_
   refine G2 r_gtr ?_
   refine G1 r_move ?_
   refine G1 r_move ?_
   refine G1 r_move ?_
   refine GIx tU22 ti_63 (fun hg => af ⟨⟨(nF (oF (g_f (g_up hg))).1), (dF (oF (g_f (g_up hg))).2)⟩, (dT (g_t hg))⟩) ?_
   refine GF 0 Tryz.underlying63 ti_9 ?_
   refine gP ag <| GLd tU9 (fun hg => ⟨⟨(nF (oF (g_f (g_up hg))).1), (dF (oF (g_f (g_up hg))).2)⟩, (dT (g_t hg))⟩) ?_
   refine G1 r_move ?_
   refine G1 r_move ?_
   refine gP ah <| G2s r_subI (fun hg => ⟨⟨(nF (oF (g_f (g_up hg))).1), (dF (oF (g_f (g_up hg))).2)⟩, (dT (g_t hg))⟩) ?_
   refine GIx tU22 ti_63 (fun hg => ai ⟨⟨(nF (oF (g_f (g_up hg))).1), (dF (oF (g_f (g_up hg))).2)⟩, (dT (g_t hg))⟩) ?_
   refine GF 0 Tryz.underlying63 ti_9 ?_
   refine gP aj <| GLd tU9 (fun hg => ⟨⟨(nF (oF (g_f (g_up hg))).1), (dF (oF (g_f (g_up hg))).2)⟩, (dT (g_t hg))⟩) ?_
   refine G2 r_sleq ?_
   refine Gpa ?_
   refine gpo ?_
   refine eT fun i => ?_
   refine gZ <| tn ?_
   refine gi (fun h => ((oT h).imp (fun h => ((oT h).imp (fun h => (nT h)) (fun h => (dT h)))) (fun h => ⟨(dT (aT h).1), ((oT (aT h).2).imp (fun h => h) (fun h => (dT h)))⟩))) (fun h => ⟨⟨(nF (oF (oF h).1).1), (dF (oF (oF h).1).2)⟩, ((aF (oF h).2).imp (fun h => (dF h)) (fun h => ⟨(oF h).1, (dF (oF h).2)⟩))⟩) ?_ ?_
   ·refine gS <| gR <| gN <| ge <| tn <| gr <| br <| tr <| tr <| br <| tr <| gT0 ?_
    exact gz1
   ·refine gk <| bn <| tn <| gR <| gM ?_
    refine g2s r_addI ?_
    refine gN <| ge <| gT0 ?_
    exact k1 []
  ·refine gx <| te <| te <| bh <| tn <| gS <| gR <| gN <| ge <| tn <| gr ?_
   exact gz1
end Go.Proofs.YtghmgfkdnolcdaaGreat
