/-
  PRINTED BY PROGRAM: for each function its condition (vc), and that this suffices (ok).
-/
import Derived.Test.YteohbfaechfliaaQSlotsTurnedGT
namespace Go.Proofs.Yteohbfaechfliaa
open Go.RowKit
set_option linter.unusedVariables false
set_option maxHeartbeats 1000000
set_option maxRecDepth 10000
def ref07_Flat.vc (a : Int) (b : Str) (c : Str) (d : Sl) (f : Sl) (R : Value → World → Prop) (w : World) : Prop :=
∀ (g : World) (h : Nat), New w h g → Chg [] w g →
CallK Try.prog 35 #[Sl.v Sl.nil, .agg #[.int .i64 a, .string (Bs b), .string (Bs c), Sl.v d, Sl.v f], .int .i64 (-1), .int .i64 0, .int .i64 0] g [h] (fun v j => ∃ (i : Sl), v = Sl.v i ∧
R (Sl.v i) j)
theorem ref07_Flat.ok (a : Int) (b : Str) (c : Str) (d : Sl) (f : Sl) {R : Value → World → Prop} {w : World} (k : ref07_Flat.vc a b c d f R w) : Calls Try.prog 11 #[.agg #[.int .i64 a, .string (Bs b), .string (Bs c), Sl.v d, Sl.v f]] w (Ret R) := by
 refine go _ Try.func11 Try.ntmps11 k ?_
 refine gS <| gR <| nb fun g h => ?_
 refine gN <| ge <| tn <| gS <| gR ?_
 refine gBN 0 5 Try.underlying26 ti_26 <| gT1 ?_
 refine gC [0] Try.func35 fun _ j => gE fun i => gQ ?_
 refine gN <| ge <| tn <| gr ?_
 exact gz1
def ref07_Kids.vc (d : Sl) (c : Int) (R : Value → World → Prop) (w : World) : Prop :=
(I64 (c + 1)) ∧
∃ (o : Sl → Int → World → Prop) (r : Sl → Int → World → Nat),
o Sl.nil (c + 1) w ∧
(∀ (f : Sl) (b : Int) (g : World), o f b g →
((0 : Int) ≤ c ∧ c < (d.n : Int)) ∧ ∃ p : Addr, d.a = some p ∧
∃ (h : Int), (g.cell? ((p.add (c.toNat * 15)).add 1) = some (.int .i64 h)) ∧
(I64 (c + h)) ∧
((b < (c + h)) →
∀ (i : World) (k : Nat), New g k i → Chg [] g i →
∀ (_ : Box i k 3 [.int .i64 b]),
RunK Try.prog (Builtin.append_ #[22, 22] 22 #[Sl.v f, Sl.v (Sl.mk (some ⟨k, 0, none⟩) 1 1)]) i [] (fun v l => ∃ (m : Sl), v = Sl.v m ∧
((0 : Int) ≤ b ∧ b < (d.n : Int)) ∧ ∃ q : Addr, d.a = some q ∧
∃ (j : Int), (l.cell? ((q.add (b.toNat * 15)).add 1) = some (.int .i64 j)) ∧
(I64 (b + j)) ∧
o m (b + j) l ∧ r m (b + j) l < r f b g)) ∧
((¬ (b < (c + h))) →
R (Sl.v f) g))
theorem ref07_Kids.ok (d : Sl) (c : Int) {R : Value → World → Prop} {w : World} (s : ref07_Kids.vc d c R w) : Calls Try.prog 17 #[Sl.v d, .int .i64 c] w (Ret R) := by
 refine go _ Try.func17 Try.ntmps17 s ?_
 refine gS <| gR <| gN <| ge <| tn <| gS <| gR ?_
 refine gN <| ge <| tn <| gS <| gS <| gR ?_
 refine gM ?_
 refine g2s r_addI ?_
 refine gN <| ge <| tn <| gb <| gE fun _ => gE fun mu => ?_
 refine l2 mu (fun f b => [(5, Sl.v f), (6, .int .i64 b)]) [(0, _), (1, _)] (fun _ _ => []) [] [] fun f b g _ => gS <| gS <| gR ?_
 refine gM ?_
 refine gM ?_
 refine gM ?_
 refine gM ?_
 refine gI1 tU31 ti_38 fun p => ?_
 refine gF 1 Try.underlying38 ti_3 ?_
 refine gE fun h => gL tU3 ?_
 refine g2s r_addI ?_
 refine g2 r_lss <| ge <| tn ?_
 refine gi dT dF ?_ ?_
 ·refine gk <| tn <| gS <| gb <| gR <| gM ?_
  refine gM ?_
  refine ns [.int .i64 b] tU22 ti_3 fun i k => gT1 ?_
  refine gX 0 ?_
  refine gR2 [] r_append fun _ l => gE fun m => gQ ?_
  refine gN <| ge <| bn <| tn <| gR ?_
  refine gM ?_
  refine gM ?_
  refine gM ?_
  refine gI1 tU31 ti_38 fun q => ?_
  refine gF 1 Try.underlying38 ti_3 ?_
  refine gE fun j => gL tU3 ?_
  refine g2s r_addI ?_
  refine gN <| ge ?_
  exact k2 []
 ·refine gx <| te <| te <| bh <| tn <| gS <| gR <| gM ?_
  refine gN <| ge <| tn <| gr ?_
  exact gz1
def ref07_Post.vc (a : Int) (b : Str) (c : Str) (d : Sl) (f : Sl) (R : Value → World → Prop) (w : World) : Prop :=
∀ (g : World) (h : Nat), New w h g → Chg [] w g →
CallK Try.prog 11 #[.agg #[.int .i64 a, .string (Bs b), .string (Bs c), Sl.v d, Sl.v f]] g [h] (fun v k => ∃ (i : Sl), v = Sl.v i ∧
CallK Try.prog 54 #[Sl.v i, .int .i64 0] k [] (fun v l => ∃ (j : Sl), v = Sl.v j ∧
R (Sl.v j) l))
theorem ref07_Post.ok (a : Int) (b : Str) (c : Str) (d : Sl) (f : Sl) {R : Value → World → Prop} {w : World} (m : ref07_Post.vc a b c d f R w) : Calls Try.prog 30 #[.agg #[.int .i64 a, .string (Bs b), .string (Bs c), Sl.v d, Sl.v f]] w (Ret R) := by
 refine go _ Try.func30 Try.ntmps30 m ?_
 refine gS <| gR <| nb fun g h => ?_
 refine gN <| ge <| tn <| gS <| gR ?_
 refine gBN 0 5 Try.underlying26 ti_26 <| gT1 ?_
 refine gC [0] Try.func11 fun _ k => gE fun i => gQ ?_
 refine gN <| ge <| tn <| gS <| gR ?_
 refine gM ?_
 refine gC [] Try.func54 fun _ l => gE fun j => gQ ?_
 refine gN <| ge <| tn <| gr ?_
 exact gz1
def ref07_flat.vc (g : Sl) (p : Int) (q : Str) (r : Str) (t : Sl) (d : Sl) (u : Int) (o : Int) (x : Int) (R : Value → World → Prop) (w : World) : Prop :=
∀ (z : World) (ap : Nat), New w ap z → Chg [] w z →
∃ aa : Int → Str → Str → Sl → Sl → World → Prop, (∀ i : Int, ∀ j : Str, ∀ k : Str, ∀ l : Sl, ∀ m : Sl, ∀ w' w'' : World, Ext w' w'' → aa i j k l m w' → aa i j k l m w'') ∧
(∀ w' : World, Ext z w' → Calls Try.prog 59 #[.agg #[.int .i64 p, .string (Bs q), .string (Bs r), Sl.v t, Sl.v d]] w' (Ret fun v w'' => Ext w' w'' ∧ ∃ i : Int, ∃ j : Str, ∃ k : Str, ∃ l : Sl, ∃ m : Sl, v = .agg #[.int .i64 i, .string (Bs j), .string (Bs k), Sl.v l, Sl.v m] ∧ aa i j k l m w'')) ∧
∀ (ag : World) (ah : Int) (ai : Str) (aj : Str) (ak : Sl) (al : Sl) (ab : Nat), Ext z ag → aa ah ai aj ak al ag → z.heap.size ≤ ab → Box ag ab 38 [.int .i64 u, .int .i64 0, .int .i64 o, .int .i64 0, .int .i64 x, .int .i64 ah, .string (Bs ai), .string (Bs aj), Sl.v ak, Sl.v al, .int .i64 p, .string (Bs q), .string (Bs r), Sl.v t, Sl.v d] → 
∀ (_ : Box ag ab 38 [.int .i64 u, .int .i64 0, .int .i64 o, .int .i64 0, .int .i64 x, .int .i64 ah, .string (Bs ai), .string (Bs aj), Sl.v ak, Sl.v al, .int .i64 p, .string (Bs q), .string (Bs r), Sl.v t, Sl.v d]),
RunK Try.prog (Builtin.append_ #[31, 31] 31 #[Sl.v g, Sl.v (Sl.mk (some ⟨ab, 0, none⟩) 1 1)]) ag [ap] (fun v aV => ∃ (aB : Sl), v = Sl.v aB ∧
∀ (aC : World), Chg [] aV aC →
∃ (aD : Sl → Int → Int → World → Prop) (aX : Sl → Int → Int → World → Nat),
aD aB 0 0 aC ∧
(∀ (c : Sl) (y : Int) (f : Int) (ad : World), aD c y f ad →
((f < (d.n : Int)) →
((0 : Int) ≤ f ∧ f < (d.n : Int)) ∧ ∃ aG : Addr, d.a = some aG ∧
∃ (aH : Int) (aI : Str) (aJ : Str) (aK : Sl) (aL : Sl), (Cells ad (aG.add (f.toNat * 5)) [.int .i64 aH, .string (Bs aI), .string (Bs aJ), Sl.v aK, Sl.v aL]) ∧
(I64 (o + 1)) ∧
CallK Try.prog 35 #[Sl.v c, .agg #[.int .i64 aH, .string (Bs aI), .string (Bs aJ), Sl.v aK, Sl.v aL], .int .i64 (g.n : Int), .int .i64 (o + 1), .int .i64 f] ad [ap] (fun v ar => ∃ (am : Sl), v = Sl.v am ∧
((0 : Int) ≤ (c.n : Int) ∧ (c.n : Int) < (am.n : Int)) ∧ ∃ aM : Addr, am.a = some aM ∧
∃ (au : Int), (ar.cell? ((aM.add ((c.n : Int).toNat * 15)).add 3) = some (.int .i64 au)) ∧
(I64 (f + 1)) ∧
aD am (max y au) (f + 1) ar ∧ aX am (max y au) (f + 1) ar < aX c y f ad)) ∧
((¬ (f < (d.n : Int))) →
(I64 ((c.n : Int) - (g.n : Int))) ∧
((0 : Int) ≤ (g.n : Int) ∧ (g.n : Int) < (c.n : Int)) ∧ ∃ aN : Addr, c.a = some aN ∧
∃ (an av : Nat) (aO : TypeId) (ax : List Value), ((aN.add ((g.n : Int).toNat * 15)).add 1) = ⟨an, av, none⟩ ∧ Box ad an aO ax ∧ av + 1 ≤ ax.length ∧ (∀ b ∈ [], b ≠ an) ∧
(∀ aq : World, Chg [an] ad aq → Box aq an aO (putAt ax av [.int .i64 ((c.n : Int) - (g.n : Int))]) →
(I64 (y + 1)) ∧
((0 : Int) ≤ (g.n : Int) ∧ (g.n : Int) < (c.n : Int)) ∧ ∃ aP : Addr, c.a = some aP ∧
∃ (ao ay : Nat) (aQ : TypeId) (az : List Value), ((aP.add ((g.n : Int).toNat * 15)).add 3) = ⟨ao, ay, none⟩ ∧ Box aq ao aQ az ∧ ay + 1 ≤ az.length ∧ (∀ b ∈ [], b ≠ ao) ∧
(∀ aA : World, Chg [ao] aq aA → Box aA ao aQ (putAt az ay [.int .i64 (y + 1)]) →
R (Sl.v c) aA)))))
theorem ref07_flat.ok (g : Sl) (p : Int) (q : Str) (r : Str) (t : Sl) (d : Sl) (u : Int) (o : Int) (x : Int) {R : Value → World → Prop} {w : World} (aY : ref07_flat.vc g p q r t d u o x R w) : Calls Try.prog 35 #[Sl.v g, .agg #[.int .i64 p, .string (Bs q), .string (Bs r), Sl.v t, Sl.v d], .int .i64 u, .int .i64 o, .int .i64 x] w (Ret R) := by
 refine go _ Try.func35 Try.ntmps35 aY ?_
 refine gS <| gR <| nb fun w7 ap => ?_
 refine gN <| ge <| tn <| gS <| gR ?_
 refine gM ?_
 refine g1 (fun af => r_len af tU31) ?_
 refine gN <| ge <| tn <| gS ?_
 refine gD fun z => gT1 <| gE fun aa => gA fun aR => gA fun aZ => ?_
 refine gW 0 9 [(5, ⟨Int × Str × Str × Sl × Sl, default, fun s => .agg #[.int .i64 s.1, .string (Bs s.2.1), .string (Bs s.2.2.1), Sl.v s.2.2.2.1, Sl.v s.2.2.2.2], fun s w => aa s.1 s.2.1 s.2.2.1 s.2.2.2.1 s.2.2.2.2 w, fun s => aR s.1 s.2.1 s.2.2.1 s.2.2.2.1 s.2.2.2.2⟩), (8, ⟨Int × Str × Str × Sl × Sl × Nat, default, fun s => (fun B => .slice (some ⟨B, 0, none⟩) 1 1) s.2.2.2.2.2, fun s w' => aa s.1 s.2.1 s.2.2.1 s.2.2.2.1 s.2.2.2.2.1 w' ∧ z.heap.size ≤ s.2.2.2.2.2 ∧ Box w' s.2.2.2.2.2 38 [.int .i64 u, .int .i64 0, .int .i64 o, .int .i64 0, .int .i64 x, .int .i64 s.1, .string (Bs s.2.1), .string (Bs s.2.2.1), Sl.v s.2.2.2.1, Sl.v s.2.2.2.2.1, .int .i64 p, .string (Bs q), .string (Bs r), Sl.v t, Sl.v d], fun s w' w'' hE h => ⟨(aR s.1 s.2.1 s.2.2.1 s.2.2.2.1 s.2.2.2.2.1 w' w'' hE h.1), h.2.1, h.2.2.ext hE⟩⟩)] ?_
 refine gM ?_
 refine gM ?_
 refine gM ?_
 refine gM ?_
 refine gBN 0 5 Try.underlying26 ti_26 ?_
 refine yc rfl Try.func59 (fun w' hE _ => aZ w' hE) (fun _ _ ⟨i, j, k, l, m, h1, h2⟩ => ⟨(i, j, k, l, m), h1, h2⟩) fun ⟨i, j, k, l, m⟩ => ?_
 refine gBN 0 5 Try.underlying26 ti_26 ?_
 refine gbK #[.int .i64 u, .int .i64 0, .int .i64 o, .int .i64 0, .int .i64 x, .int .i64 i, .string (Bs j), .string (Bs k), Sl.v l, Sl.v m, .int .i64 p, .string (Bs q), .string (Bs r), Sl.v t, Sl.v d] ti_38 Try.underlying38 pl_38 ?_
 refine yn (fun B => .slice (some ⟨B, 0, none⟩) 1 1) (cs := [.int .i64 u, .int .i64 0, .int .i64 o, .int .i64 0, .int .i64 x, .int .i64 i, .string (Bs j), .string (Bs k), Sl.v l, Sl.v m, .int .i64 p, .string (Bs q), .string (Bs r), Sl.v t, Sl.v d]) rfl (fun _ hA _ => r_buildSlice ((OPs.of rfl : OPs _ true _ _).map hA rfl) tU31 ti_38 rfl rfl (by kernel_rfl)) (fun _ _ B _ hF hA' h1 h2 => ⟨(i, j, k, l, m, B), rfl, (aR i j k l m _ _ hA' (hF.1 (by kernel_rfl))), h1, h2⟩) fun ⟨ah, ai, aj, ak, al, ab⟩ => ?_
 refine eB (B := ab) (T := 38) (cs := [.int .i64 u, .int .i64 0, .int .i64 o, .int .i64 0, .int .i64 x, .int .i64 ah, .string (Bs ai), .string (Bs aj), Sl.v ak, Sl.v al, .int .i64 p, .string (Bs q), .string (Bs r), Sl.v t, Sl.v d]) (fun _ hF => ⟨hF.1.2.1, hF.1.2.2⟩) (fun v w' hE hF => v w' ah ai aj ak al ab hE hF.1.1 hF.1.2.1 hF.1.2.2) fun ag => ?_
 refine gO 9 ?_
 refine gX 0 ?_
 refine gR2 [1] r_append fun _ aV => gE fun aB => gQ <| geO ?_
 refine gW 10 1 [] ?_
 refine gN <| geT fun aC => ?_
 refine gZ <| tn <| gS <| gR ?_
 refine gN <| ge <| tn <| gS <| gS <| gR ?_
 refine gN <| ge <| tn <| gb <| gT0 <| gE fun _ => gE fun mu => ?_
 refine l3 mu (fun c y f => [(0, Sl.v c), (12, .int .i64 y), (13, .int .i64 f)]) [(3, _), (6, _), (11, _)] (fun _ _ _ => []) [(ap, _, _)] [0] fun c y f ad _ => gS <| gS <| gR ?_
 refine gM ?_
 refine gF 4 Try.underlying26 ti_24 ?_
 refine gB 0 tU24 ?_
 refine g1 (fun af => r_len af tU24) ?_
 refine g2 r_lss <| ge <| tn ?_
 refine gi dT dF ?_ ?_
 ·refine gk <| tn <| gS <| gb <| gS <| gR <| gM ?_
  refine g1 (fun af => r_len af tU31) ?_
  refine gN <| ge <| tn <| gS <| gR ?_
  refine gM ?_
  refine gF 4 Try.underlying26 ti_24 ?_
  refine gB 0 tU24 ?_
  refine gM ?_
  refine gI1 tU24 ti_26 fun aG => ?_
  refine gE fun aH => gE fun aI => gE fun aJ => gE fun aK => gE fun aL => gLN Try.underlying26 ti_26 ?_
  refine gM ?_
  refine gM ?_
  refine g2s r_addI ?_
  refine gM ?_
  refine gC [0] Try.func35 fun _ ar => gE fun am => gQ ?_
  refine gN <| ge <| tn <| gR ?_
  refine gM ?_
  refine gM ?_
  refine gM ?_
  refine gI1 tU31 ti_38 fun aM => ?_
  refine gF 3 Try.underlying38 ti_3 ?_
  refine gE fun au => gL tU3 ?_
  refine g2 r_max ?_
  refine gN <| ge <| bn <| tn <| gR ?_
  refine gM ?_
  refine g2s r_addI ?_
  refine gN <| ge ?_
  exact k3 [0]
 ·refine gx <| te <| te <| bh <| tn <| gS <| gR <| gM ?_
  refine gM ?_
  refine gM ?_
  refine g1 (fun af => r_len af tU31) ?_
  refine gM ?_
  refine g2s r_subI ?_
  refine gI1 tU31 ti_38 fun aN => ?_
  refine gF 1 Try.underlying38 ti_3 ?_
  refine wx [] ti_3 fun an av aO ax aq => ge <| tn <| gS <| gR ?_
  refine gM ?_
  refine gM ?_
  refine gM ?_
  refine g2s r_addI ?_
  refine gI1 tU31 ti_38 fun aP => ?_
  refine gF 3 Try.underlying38 ti_3 ?_
  refine wx [] ti_3 fun ao ay aQ az aA => ge <| tn <| gS <| gR ?_
  refine gM ?_
  refine gN <| ge <| tn <| gr ?_
  exact gz1
def ref07_post.vc (d : Sl) (c : Int) (R : Value → World → Prop) (w : World) : Prop :=
(I64 (c + 1)) ∧
∃ (o : Sl → Int → World → Prop) (t : Sl → Int → World → Nat),
o Sl.nil (c + 1) w ∧
(∀ (f : Sl) (b : Int) (g : World), o f b g →
((0 : Int) ≤ c ∧ c < (d.n : Int)) ∧ ∃ p : Addr, d.a = some p ∧
∃ (h : Int), (g.cell? ((p.add (c.toNat * 15)).add 1) = some (.int .i64 h)) ∧
(I64 (c + h)) ∧
((b < (c + h)) →
CallK Try.prog 54 #[Sl.v d, .int .i64 b] g [] (fun v u => ∃ (q : Sl), v = Sl.v q ∧
RunK Try.prog (Builtin.append_ #[22, 22] 22 #[Sl.v f, Sl.v q]) u [] (fun v k => ∃ (l : Sl), v = Sl.v l ∧
((0 : Int) ≤ b ∧ b < (d.n : Int)) ∧ ∃ r : Addr, d.a = some r ∧
∃ (i : Int), (k.cell? ((r.add (b.toNat * 15)).add 1) = some (.int .i64 i)) ∧
(I64 (b + i)) ∧
o l (b + i) k ∧ t l (b + i) k < t f b g))) ∧
((¬ (b < (c + h))) →
∀ (j : World) (m : Nat), New g m j → Chg [] g j →
∀ (_ : Box j m 3 [.int .i64 c]),
RunK Try.prog (Builtin.append_ #[22, 22] 22 #[Sl.v f, Sl.v (Sl.mk (some ⟨m, 0, none⟩) 1 1)]) j [] (fun v x => ∃ (s : Sl), v = Sl.v s ∧
R (Sl.v s) x)))
theorem ref07_post.ok (d : Sl) (c : Int) {R : Value → World → Prop} {w : World} (y : ref07_post.vc d c R w) : Calls Try.prog 54 #[Sl.v d, .int .i64 c] w (Ret R) := by
 refine go _ Try.func54 Try.ntmps54 y ?_
 refine gS <| gR <| gN <| ge <| tn <| gS <| gR ?_
 refine gN <| ge <| tn <| gS <| gS <| gR ?_
 refine gM ?_
 refine g2s r_addI ?_
 refine gN <| ge <| tn <| gb <| gE fun _ => gE fun mu => ?_
 refine l2 mu (fun f b => [(5, Sl.v f), (6, .int .i64 b)]) [(0, _), (1, _)] (fun _ _ => []) [] [] fun f b g _ => gS <| gS <| gR ?_
 refine gM ?_
 refine gM ?_
 refine gM ?_
 refine gM ?_
 refine gI1 tU31 ti_38 fun p => ?_
 refine gF 1 Try.underlying38 ti_3 ?_
 refine gE fun h => gL tU3 ?_
 refine g2s r_addI ?_
 refine g2 r_lss <| ge <| tn ?_
 refine gi dT dF ?_ ?_
 ·refine gk <| tn <| gS <| gb <| gR <| gM ?_
  refine gM ?_
  refine gM ?_
  refine gC [] Try.func54 fun _ u => gE fun q => gQ ?_
  refine gR2 [] r_append fun _ k => gE fun l => gQ ?_
  refine gN <| ge <| bn <| tn <| gR ?_
  refine gM ?_
  refine gM ?_
  refine gM ?_
  refine gI1 tU31 ti_38 fun r => ?_
  refine gF 1 Try.underlying38 ti_3 ?_
  refine gE fun i => gL tU3 ?_
  refine g2s r_addI ?_
  refine gN <| ge ?_
  exact k2 []
 ·refine gx <| te <| te <| bh <| tn <| gS <| gR <| gM ?_
  refine gM ?_
  refine ns [.int .i64 c] tU22 ti_3 fun j m => gT1 ?_
  refine gX 0 ?_
  refine gR2 [] r_append fun _ x => gE fun s => gQ ?_
  refine gN <| ge <| tn <| gr ?_
  exact gz1
end Go.Proofs.Yteohbfaechfliaa
