/-
  PRINTED BY PROGRAM: for each function its condition (vc), and that this suffices (ok).
-/
import Derived.Test.YtghmgfkdnolcdaaGreatQApplyAllGT
namespace Go.Proofs.YtghmgfkdnolcdaaGreat
open Go.RowKit
set_option linter.unusedVariables false
set_option maxHeartbeats 1000000
set_option maxRecDepth 10000
def law00_Small.vc (c : Int) (d : Str) (f : Str) (g : Sl) (h : Sl) (R : Value → World → Prop) (w : World) : Prop :=
∀ (a : World) (i : Nat) (b : Nat), New w i a → New w b a → i ≠ b → Chg [] w a →
∀ (_ : Box a b 3 [.int .i64 0]),
CallK Tryz.prog 16 #[.agg #[.int .i64 c, .string (Bs d), .string (Bs f), Sl.v g, Sl.v h], .int .i64 0, .pointer (some (⟨b, 0, none⟩ : Addr))] a [i] (fun v k => ∃ (j : Bool), v = .bool j ∧
R (.bool j) k)
theorem law00_Small.ok (c : Int) (d : Str) (f : Str) (g : Sl) (h : Sl) {R : Value → World → Prop} {w : World} (l : law00_Small.vc c d f g h R w) : Calls Tryz.prog 4 #[.agg #[.int .i64 c, .string (Bs d), .string (Bs f), Sl.v g, Sl.v h]] w (Ret R) := by
 refine go _ Tryz.func4 Tryz.ntmps4 l ?_
 refine gS <| gR <| nb fun m i => ?_
 refine gN <| ge <| tn <| gS <| gR ?_
 refine na ti_3 fun n b => ?_
 refine wn 0 0 ti_3 fun a => ge <| tn <| gS <| gR ?_
 refine gBN 1 5 Tryz.underlying25 ti_25 <| gT2 ?_
 refine gX 0 ?_
 refine gC [1] Tryz.func16 fun _ k => gE fun j => gQ ?_
 refine gN <| ge <| tn <| gr ?_
 exact gz1
def law00_Tree.vc (af : Int) (ag : Str) (ah : Str) (an : Sl) (m : Sl) (R : Value → World → Prop) (w : World) : Prop :=
∀ (l : World) (ai : Nat) (t : Nat), New w ai l → New w t l → ai ≠ t → Chg [] w l →
∃ u : Sl → World → Prop, (∀ c : Sl, ∀ w' w'' : World, Ext w' w'' → u c w' → u c w'') ∧
(∀ w' : World, Ext l w' → Calls Tryz.prog 17 #[Sl.v an] w' (Ret fun v w'' => Ext w' w'' ∧ ∃ c : Sl, v = Sl.v c ∧ u c w'')) ∧
∀ (aj : World) (c : Sl) (k : Nat), Ext l aj → u c aj → l.heap.size ≤ k → Box aj k 25 [.int .i64 0, .string (Bs []), .string (Bs []), Sl.v Sl.nil, Sl.v Sl.nil] → 
∀ (aq : World), Chg [k] aj aq →
∃ (ar : Int → Sl → World → Prop) (aD : Int → Sl → World → Nat),
ar 0 Sl.nil aq ∧
(∀ (b : Int) (o : Sl) (ak : World), ar b o ak →
((b < (m.n : Int)) →
∀ (p : World), Chg [] ak p →
∃ au : Addr, (((0 : Int) ≤ b ∧ b < (m.n : Int)) ∧ m.a = some au) ∧
∃ (av : Int) (ax : Str) (ay : Str) (az : Sl) (aA : Sl), (Cells p (au.add (b.toNat * 5)) [.int .i64 av, .string (Bs ax), .string (Bs ay), Sl.v az, Sl.v aA]) ∧
∃ q : Int → Str → Str → Sl → Sl → World → Prop, (∀ d : Int, ∀ f : Str, ∀ g : Str, ∀ i : Sl, ∀ j : Sl, ∀ w' w'' : World, Ext w' w'' → q d f g i j w' → q d f g i j w'') ∧
(∀ w' : World, Ext p w' → Calls Tryz.prog 7 #[.agg #[.int .i64 av, .string (Bs ax), .string (Bs ay), Sl.v az, Sl.v aA]] w' (Ret fun v w'' => Ext w' w'' ∧ ∃ d : Int, ∃ f : Str, ∃ g : Str, ∃ i : Sl, ∃ j : Sl, v = .agg #[.int .i64 d, .string (Bs f), .string (Bs g), Sl.v i, Sl.v j] ∧ q d f g i j w'')) ∧
∀ (x : World) (y : Int) (z : Str) (aa : Str) (ab : Sl) (ad : Sl) (r : Nat), Ext p x → q y z aa ab ad x → p.heap.size ≤ r → Box x r 25 [.int .i64 y, .string (Bs z), .string (Bs aa), Sl.v ab, Sl.v ad] → 
∀ (_ : Box x r 25 [.int .i64 y, .string (Bs z), .string (Bs aa), Sl.v ab, Sl.v ad]),
RunK Tryz.prog (Builtin.append_ #[23, 23] 23 #[Sl.v o, Sl.v (Sl.mk (some ⟨r, 0, none⟩) 1 1)]) x [ai, t, k] (fun v aG => ∃ (ao : Sl), v = Sl.v ao ∧
(I64 (b + 1)) ∧
∀ (ap : World), Chg [k] aG ap →
ar (b + 1) ao ap ∧ aD (b + 1) ao ap < aD b o ak)) ∧
((¬ (b < (m.n : Int))) →
∀ (aB : World), Chg [t] ak aB →
R (.agg #[.int .i64 af, .string (Bs ag), .string (Bs ah), Sl.v c, Sl.v o]) aB))
theorem law00_Tree.ok (af : Int) (ag : Str) (ah : Str) (an : Sl) (m : Sl) {R : Value → World → Prop} {w : World} (aH : law00_Tree.vc af ag ah an m R w) : Calls Tryz.prog 7 #[.agg #[.int .i64 af, .string (Bs ag), .string (Bs ah), Sl.v an, Sl.v m]] w (Ret R) := by
 refine go _ Tryz.func7 Tryz.ntmps7 aH ?_
 refine gS <| gR <| nb fun w3 ai => ?_
 refine na ti_25 fun w5 t => ge <| tn <| gS ?_
 refine gD fun l => gT2 <| gE fun u => gA fun aI => gA fun aJ => ?_
 refine gW 0 11 [(8, ⟨Sl, default, fun s => Sl.v s, fun s w => u s w, aI⟩), (10, rsB l (fun B => .pointer (some ⟨B, 0, none⟩)) 25 [.int .i64 0, .string (Bs []), .string (Bs []), Sl.v Sl.nil, Sl.v Sl.nil])] ?_
 refine gF 0 Tryz.underlying25 ti_3 ?_
 refine gB 1 tU3 ?_
 refine gF 1 Tryz.underlying25 ti_9 ?_
 refine gB 1 tU9 ?_
 refine gF 2 Tryz.underlying25 ti_9 ?_
 refine gB 1 tU9 ?_
 refine gF 3 Tryz.underlying25 ti_22 ?_
 refine gB 1 tU22 ?_
 refine yc rfl Tryz.func17 (fun w' hE _ => aJ w' hE) (fun _ _ h => h) fun c => ?_
 refine gbu ti_25 Tryz.underlying25 pl_25 (OPs.of rfl) ?_
 refine yn (fun B => .pointer (some ⟨B, 0, none⟩)) (cs := [.int .i64 0, .string (Bs []), .string (Bs []), Sl.v Sl.nil, Sl.v Sl.nil]) rfl (fun _ hA _ => r_alloc ti_25 rfl) (fun _ _ B _ _ _ h1 h2 => ⟨B, rfl, h1, h2⟩) fun k => ?_
 refine eB (B := k) (T := 25) (cs := [.int .i64 0, .string (Bs []), .string (Bs []), Sl.v Sl.nil, Sl.v Sl.nil]) (fun _ hF => ⟨hF.1.1, hF.1.2⟩) (fun v w' hE hF => v w' c k hE hF.2.1 hF.1.1 hF.1.2) fun aj => ?_
 refine gO 11 ?_
 refine wo 0 ti_25 fun aq => geO ?_
 refine gZ <| tn <| gS <| gS <| gR ?_
 refine gN <| ge <| tn <| gb <| gT0 <| gE fun _ => gE fun mu => ?_
 refine l2 mu (fun b _ => [(4, .int .i64 b)]) [(1, _), (2, _), (3, _)] (fun _ o => [(k, 25, [.int .i64 af, .string (Bs ag), .string (Bs ah), Sl.v c, Sl.v o])]) [(ai, _, _), (t, _, _)] [0, 2, 1] fun b o ak _ => gS <| gS <| gR ?_
 refine gM ?_
 refine gF 4 Tryz.underlying25 ti_23 ?_
 refine gB 1 tU23 ?_
 refine g1 (fun aK => r_len aK tU23) ?_
 refine g2 r_lss <| ge <| tn ?_
 refine gi dT dF ?_ ?_
 ·refine gk <| tn <| gS <| gb <| gD fun p => gT0 <| gE fun au => gA fun aL => gE fun av => gE fun ax => gE fun ay => gE fun az => gE fun aA => gA fun aM => gE fun q => gA fun aC => gA fun aN => ?_
  refine gW 0 9 [(7, ⟨Int × Str × Str × Sl × Sl, default, fun s => .agg #[.int .i64 s.1, .string (Bs s.2.1), .string (Bs s.2.2.1), Sl.v s.2.2.2.1, Sl.v s.2.2.2.2], fun s w => q s.1 s.2.1 s.2.2.1 s.2.2.2.1 s.2.2.2.2 w, fun s => aC s.1 s.2.1 s.2.2.1 s.2.2.2.1 s.2.2.2.2⟩), (8, ⟨Int × Str × Str × Sl × Sl × Nat, default, fun s => (fun B => .slice (some ⟨B, 0, none⟩) 1 1) s.2.2.2.2.2, fun s w' => q s.1 s.2.1 s.2.2.1 s.2.2.2.1 s.2.2.2.2.1 w' ∧ p.heap.size ≤ s.2.2.2.2.2 ∧ Box w' s.2.2.2.2.2 25 [.int .i64 s.1, .string (Bs s.2.1), .string (Bs s.2.2.1), Sl.v s.2.2.2.1, Sl.v s.2.2.2.2.1], fun s w' w'' hE h => ⟨(aC s.1 s.2.1 s.2.2.1 s.2.2.2.1 s.2.2.2.2.1 w' w'' hE h.1), h.2.1, h.2.2.ext hE⟩⟩)] ?_
  refine gF 4 Tryz.underlying25 ti_23 ?_
  refine gB 0 tU23 ?_
  refine gF 4 Tryz.underlying25 ti_23 ?_
  refine gB 1 tU23 ?_
  refine gM ?_
  refine gIx tU23 ti_25 aL ?_
  refine gP aM <| gLN Tryz.underlying25 ti_25 ?_
  refine yc rfl Tryz.func7 (fun w' hE _ => aN w' hE) (fun _ _ ⟨d, f, g, i, j, h1, h2⟩ => ⟨(d, f, g, i, j), h1, h2⟩) fun ⟨d, f, g, i, j⟩ => ?_
  refine yn (fun B => .slice (some ⟨B, 0, none⟩) 1 1) (cs := [.int .i64 d, .string (Bs f), .string (Bs g), Sl.v i, Sl.v j]) rfl (fun _ hA _ => r_buildSlice ((OPs.of rfl : OPs _ true _ _).map hA rfl) tU23 ti_25 rfl rfl (by kernel_rfl)) (fun _ _ B _ hF hA' h1 h2 => ⟨(d, f, g, i, j, B), rfl, (aC d f g i j _ _ hA' (hF.1 (by kernel_rfl))), h1, h2⟩) fun ⟨y, z, aa, ab, ad, r⟩ => ?_
  refine eB (B := r) (T := 25) (cs := [.int .i64 y, .string (Bs z), .string (Bs aa), Sl.v ab, Sl.v ad]) (fun _ hF => ⟨hF.1.2.1, hF.1.2.2⟩) (fun v w' hE hF => v w' y z aa ab ad r hE hF.1.1 hF.1.2.1 hF.1.2.2) fun x => ?_
  refine gO 9 ?_
  refine gX 0 ?_
  refine gR2 [2, 3, 1] r_append fun _ aG => gE fun ao => gQ <| geO ?_
  refine gW 10 1 [] ?_
  refine gF 4 Tryz.underlying25 ti_23 <| geT fun aQ => ?_
  refine gO 11 ?_
  refine wo 2 ti_23 fun ap => geO ?_
  refine gZ <| bn <| tn <| gR ?_
  refine gM ?_
  refine g2s r_addI ?_
  refine gN <| ge <| gT0 ?_
  exact k2 [2, 0, 1]
 ·refine gx <| te <| te <| bh <| tn <| gS <| gR <| gBN 0 5 Tryz.underlying25 ti_25 ?_
  refine wo 2 ti_25 fun aB => ge <| tn <| gr <| gT0 ?_
  exact gzB 2 Tryz.underlying25 ti_25
def law00_Ops.vc (a : Sl) (R : Value → World → Prop) (w : World) : Prop :=
RunK Tryz.prog (Builtin.append_ #[26, 26] 26 #[Sl.v Sl.nil, Sl.v a]) w [] (fun v c => ∃ (b : Sl), v = Sl.v b ∧
R (Sl.v b) c)
theorem law00_Ops.ok (a : Sl) {R : Value → World → Prop} {w : World} (d : law00_Ops.vc a R w) : Calls Tryz.prog 9 #[Sl.v a] w (Ret R) := by
 refine go _ Tryz.func9 Tryz.ntmps9 d ?_
 refine gS <| gR <| gN <| ge <| tn <| gS <| gR ?_
 refine gM ?_
 refine gR2 [] r_append fun _ c => gE fun b => gQ ?_
 refine gN <| ge <| tn <| gr ?_
 exact gz1
def law00_small.vc (ag : Int) (t : Str) (u : Str) (g : Sl) (j : Sl) (k : Int) (l : Addr) (R : Value → World → Prop) (w : World) : Prop :=
∀ (m : World) (o : Nat), New w o m → Chg [] w m →
∃ (x : Int), (m.cell? l = some (.int .i64 x)) ∧
(I64 (x + 1)) ∧
∃ (p y : Nat) (ah : TypeId) (z : List Value), l = ⟨p, y, none⟩ ∧ Box m p ah z ∧ y + 1 ≤ z.length ∧ (∀ b ∈ [o], b ≠ p) ∧
(∀ q : World, Chg [p] m q → Box q p ah (putAt z y [.int .i64 (x + 1)]) →
∃ (aa : Int), (q.cell? l = some (.int .i64 aa)) ∧
((((((400 < aa) ∨ (70 < k)) ∨ (20 < (g.n : Int))) ∨ (200 < (t.length : Int))) ∨ (6000 < (u.length : Int))) →
R (.bool false) q) ∧
((((((¬ (400 < aa)) ∧ (¬ (70 < k))) ∧ (¬ (20 < (g.n : Int)))) ∧ (¬ (200 < (t.length : Int)))) ∧ (¬ (6000 < (u.length : Int)))) →
∃ (ai : Int → World → Prop) (au : Int → World → Nat),
ai 0 q ∧
(∀ (c : Int) (i : World), ai c i →
((c < (g.n : Int)) →
((0 : Int) ≤ c ∧ c < (g.n : Int)) ∧ ∃ aj : Addr, g.a = some aj ∧
∃ (r : Str), (i.cell? ((aj.add (c.toNat * 2)).add 0) = some (.string (Bs r))) ∧
∃ ak : Addr, (((¬ (200 < (r.length : Int)))) → ((0 : Int) ≤ c ∧ c < (g.n : Int)) ∧  g.a = some ak) ∧
∃ (ab : Str), (((¬ (200 < (r.length : Int)))) → i.cell? ((ak.add (c.toNat * 2)).add 1) = some (.string (Bs ab))) ∧
(((200 < (r.length : Int)) ∨ (6000 < (ab.length : Int))) →
R (.bool false) i) ∧
(((¬ (200 < (r.length : Int))) ∧ (¬ (6000 < (ab.length : Int)))) →
(I64 (c + 1)) ∧
ai (c + 1) i ∧ au (c + 1) i < au c i)) ∧
((¬ (c < (g.n : Int))) →
∃ (al : Int → World → Prop) (av : Int → World → Nat),
al 0 i ∧
(∀ (d : Int) (s : World), al d s →
((d < (j.n : Int)) →
((0 : Int) ≤ d ∧ d < (j.n : Int)) ∧ ∃ am : Addr, j.a = some am ∧
∃ (an : Int) (ao : Str) (ap : Str) (aq : Sl) (ar : Sl), (Cells s (am.add (d.toNat * 5)) [.int .i64 an, .string (Bs ao), .string (Bs ap), Sl.v aq, Sl.v ar]) ∧
(I64 (k + 1)) ∧
CallK Tryz.prog 16 #[.agg #[.int .i64 an, .string (Bs ao), .string (Bs ap), Sl.v aq, Sl.v ar], .int .i64 (k + 1), .pointer (some l)] s [o] (fun v ad => ∃ (af : Bool), v = .bool af ∧
((af = false) →
R (.bool false) ad) ∧
((af = true) →
(I64 (d + 1)) ∧
al (d + 1) ad ∧ av (d + 1) ad < av d s))) ∧
((¬ (d < (j.n : Int))) →
R (.bool true) s))))))
theorem law00_small.ok (ag : Int) (t : Str) (u : Str) (g : Sl) (j : Sl) (k : Int) (l : Addr) {R : Value → World → Prop} {w : World} (ax : law00_small.vc ag t u g j k l R w) : Calls Tryz.prog 16 #[.agg #[.int .i64 ag, .string (Bs t), .string (Bs u), Sl.v g, Sl.v j], .int .i64 k, .pointer (some l)] w (Ret R) := by
 refine go _ Tryz.func16 Tryz.ntmps16 ax ?_
 refine gS <| gR <| nb fun m o => ?_
 refine gN <| ge <| tn <| gS <| gR ?_
 refine gM ?_
 refine g1 r_nilCheck <| gT1 ?_
 refine gE fun x => gL tU3 ?_
 refine g2s r_addI ?_
 refine g1 r_nilCheck ?_
 refine wx [0] ti_3 fun p y ah z q => ge <| tn <| gS <| gS <| gR ?_
 refine gM ?_
 refine g1 r_nilCheck ?_
 refine gE fun aa => gL tU3 ?_
 refine g2 r_gtr ?_
 refine gM ?_
 refine G1 r_move ?_
 refine G2 r_gtr ?_
 refine gpo ?_
 refine gM ?_
 refine GF 3 Tryz.underlying25 ti_22 ?_
 refine GB 0 tU22 ?_
 refine G1 (fun f => r_len f tU22) ?_
 refine G2 r_gtr ?_
 refine gpo ?_
 refine gM ?_
 refine GF 1 Tryz.underlying25 ti_9 ?_
 refine GB 0 tU9 ?_
 refine G1 (fun f => r_slen f tU9) ?_
 refine G2 r_gtr ?_
 refine gpo ?_
 refine gM ?_
 refine GF 2 Tryz.underlying25 ti_9 ?_
 refine GB 0 tU9 ?_
 refine G1 (fun f => r_slen f tU9) ?_
 refine G2 r_gtr ?_
 refine gpo <| ge <| tn ?_
 refine gi (fun h => ((oT h).imp (fun h => ((oT h).imp (fun h => ((oT h).imp (fun h => ((oT h).imp (fun h => (dT h)) (fun h => (dT h)))) (fun h => (dT h)))) (fun h => (dT h)))) (fun h => (dT h)))) (fun h => ⟨⟨⟨⟨(dF (oF (oF (oF (oF h).1).1).1).1), (dF (oF (oF (oF (oF h).1).1).1).2)⟩, (dF (oF (oF (oF h).1).1).2)⟩, (dF (oF (oF h).1).2)⟩, (dF (oF h).2)⟩) ?_ ?_
 ·refine gS <| gR <| gN <| ge <| tn <| gr <| tr ?_
  exact gz1
 ·refine gk <| tn <| gS <| gS <| gR <| gN <| ge <| tn <| gb <| gE fun _ => gE fun mu => ?_
  refine l1 mu (fun c => [(7, .int .i64 c)]) [(1, _), (2, _), (3, _)] (fun _ => []) [(o, _, _)] [0] fun c i _ => gS <| gS <| gR ?_
  refine gM ?_
  refine gF 3 Tryz.underlying25 ti_22 ?_
  refine gB 0 tU22 ?_
  refine g1 (fun f => r_len f tU22) ?_
  refine g2 r_lss <| ge <| tn ?_
  refine gi dT dF ?_ ?_
  ·refine gk <| tn <| gS <| gb <| gS <| gR <| gF 3 Tryz.underlying25 ti_22 ?_
   refine gB 0 tU22 ?_
   refine gM ?_
   refine gI1 tU22 ti_63 fun aj => ?_
   refine gF 0 Tryz.underlying63 ti_9 ?_
   refine gE fun r => gL tU9 ?_
   refine g1 (fun f => r_slen f tU9) ?_
   refine g2 r_gtr ?_
   refine gM ?_
   refine GF 3 Tryz.underlying25 ti_22 ?_
   refine GB 0 tU22 ?_
   refine G1 r_move ?_
   refine GI2 tU22 ti_63 (fun hg => (dF (g_f hg))) fun ak => ?_
   refine GF 1 Tryz.underlying63 ti_9 ?_
   refine gE fun ab => GLd tU9 (fun hg => (dF (g_f hg))) ?_
   refine G1 (fun f => r_slen f tU9) ?_
   refine G2 r_gtr ?_
   refine gpo <| ge <| tn ?_
   refine gi (fun h => ((oT h).imp (fun h => (dT h)) (fun h => (dT h)))) (fun h => ⟨(dF (oF h).1), (dF (oF h).2)⟩) ?_ ?_
   ·refine gS <| gR <| gN <| ge <| tn <| gr <| br <| tr <| tr <| br <| tr ?_
    exact gz1
   ·refine gk <| bn <| tn <| gR <| gM ?_
    refine g2s r_addI ?_
    refine gN <| ge ?_
    exact k1 [0]
  ·refine gx <| te <| te <| bh <| tn <| gS <| gS <| gR <| gN <| ge <| tn <| gb <| gE fun _ => gE fun mu => ?_
   refine l1 mu (fun d => [(8, .int .i64 d)]) [(1, _), (2, _), (3, _)] (fun _ => []) [(o, _, _)] [0] fun d s _ => gS <| gS <| gR ?_
   refine gM ?_
   refine gF 4 Tryz.underlying25 ti_23 ?_
   refine gB 0 tU23 ?_
   refine g1 (fun f => r_len f tU23) ?_
   refine g2 r_lss <| ge <| tn ?_
   refine gi dT dF ?_ ?_
   ·refine gk <| tn <| gS <| gb <| gS <| gR <| gF 4 Tryz.underlying25 ti_23 ?_
    refine gB 0 tU23 ?_
    refine gM ?_
    refine gI1 tU23 ti_25 fun am => ?_
    refine gE fun an => gE fun ao => gE fun ap => gE fun aq => gE fun ar => gLN Tryz.underlying25 ti_25 ?_
    refine gM ?_
    refine g2s r_addI ?_
    refine gM ?_
    refine gC [0] Tryz.func16 fun _ ad => gE fun af => gQ ?_
    refine g1 r_not <| ge <| tn ?_
    refine gi nT nF ?_ ?_
    ·refine gS <| gR <| gN <| ge <| tn <| gr <| br <| tr <| tr <| br <| tr ?_
     exact gz1
    ·refine gk <| bn <| tn <| gR <| gM ?_
     refine g2s r_addI ?_
     refine gN <| ge ?_
     exact k1 [0]
   ·refine gx <| te <| te <| bh <| tn <| gS <| gR <| gN <| ge <| tn <| gr ?_
    exact gz1
def law00_Attrs.vc (a : Sl) (R : Value → World → Prop) (w : World) : Prop :=
RunK Tryz.prog (Builtin.append_ #[22, 22] 22 #[Sl.v Sl.nil, Sl.v a]) w [] (fun v c => ∃ (b : Sl), v = Sl.v b ∧
R (Sl.v b) c)
theorem law00_Attrs.ok (a : Sl) {R : Value → World → Prop} {w : World} (d : law00_Attrs.vc a R w) : Calls Tryz.prog 17 #[Sl.v a] w (Ret R) := by
 refine go _ Tryz.func17 Tryz.ntmps17 d ?_
 refine gS <| gR <| gN <| ge <| tn <| gS <| gR ?_
 refine gM ?_
 refine gR2 [] r_append fun _ c => gE fun b => gQ ?_
 refine gN <| ge <| tn <| gr ?_
 exact gz1
end Go.Proofs.YtghmgfkdnolcdaaGreat
