/-
  PRINTED BY PROGRAM: for each function its condition (vc), and that this suffices (ok).
-/
import Derived.Test.YteohbfaechfliaaQSlotsTurnedGT
namespace Go.Proofs.Yteohbfaechfliaa
open Go.RowKit
set_option linter.unusedVariables false
set_option maxHeartbeats 1000000
set_option maxRecDepth 10000
def ref21_Match.vc (l : Int) (m : Str) (o : Str) (p : Sl) (q : Sl) (y : Int) (z : Str) (aa : Str) (ab : Sl) (ad : Sl) (R : Value → World → Prop) (w : World) : Prop :=
∀ (w6 : World) (ak : Nat) (an : Nat), New w ak w6 → New w an w6 → ak ≠ an → Chg [] w w6 →
CallK Try.prog 28 #[.agg #[.int .i64 l, .string (Bs m), .string (Bs o), Sl.v p, Sl.v q]] w6 [ak, an] (fun v w9 => ∃ (al : Bool), v = .bool al ∧
∃ (ap : Bool), (((al = true)) → Calls Try.prog 28 #[.agg #[.int .i64 y, .string (Bs z), .string (Bs aa), Sl.v ab, Sl.v ad]] w9 (Ret fun v w' => Ext w9 w' ∧ v = .bool ap)) ∧
(∀ aq : World, Ext w9 aq →
(((al = false) ∨ (ap = false)) →
R (Sl.v Sl.nil) aq) ∧
(((al = true) ∧ (ap = true)) →
∀ (k : World), Chg [] aq k →
∃ r : Sl → World → Prop, (∀ f : Sl, ∀ w' w'' : World, Ext w' w'' → r f w' → r f w'') ∧
(∀ w' : World, Ext k w' → Calls Try.prog 11 #[.agg #[.int .i64 l, .string (Bs m), .string (Bs o), Sl.v p, Sl.v q]] w' (Ret fun v w'' => Ext w' w'' ∧ ∃ f : Sl, v = Sl.v f ∧ r f w'')) ∧
∃ t : Sl → World → Prop, (∀ g : Sl, ∀ w' w'' : World, Ext w' w'' → t g w' → t g w'') ∧
(∀ w' : World, Ext k w' → Calls Try.prog 11 #[.agg #[.int .i64 y, .string (Bs z), .string (Bs aa), Sl.v ab, Sl.v ad]] w' (Ret fun v w'' => Ext w' w'' ∧ ∃ g : Sl, v = Sl.v g ∧ t g w'')) ∧
∃ u : (Option Addr) → World → Prop, (∀ i : Option Addr, ∀ w' w'' : World, Ext w' w'' → u i w' → u i w'') ∧
(∀ w' : World, Ext k w' → Calls Try.prog 29 #[.agg #[.int .i64 l, .string (Bs m), .string (Bs o), Sl.v p, Sl.v q], .agg #[.int .i64 y, .string (Bs z), .string (Bs aa), Sl.v ab, Sl.v ad], .int .i64 2] w' (Ret fun v w'' => Ext w' w'' ∧ ∃ i : Option Addr, v = .pointer i ∧ u i w'')) ∧
∀ (x : World) (af : Sl) (ag : Sl) (ah : Option Addr) (c : Nat), Ext k x → r af x → t ag x → u ah x → k.heap.size ≤ c → Box x c 70 [Sl.v af, Sl.v ag, .pointer ah] → 
CallK Try.prog 30 #[.agg #[.int .i64 l, .string (Bs m), .string (Bs o), Sl.v p, Sl.v q]] x [ak, c] (fun v az => ∃ (ai : Sl), v = Sl.v ai ∧
∀ (_ : Box az c 70 [Sl.v af, Sl.v ag, .pointer ah]),
∃ (aA : Int → World → Prop) (aX : Int → World → Nat),
aA 0 az ∧
(∀ (d : Int) (b : World), aA d b →
((d < (ai.n : Int)) →
((0 : Int) ≤ d ∧ d < (ai.n : Int)) ∧ ∃ aB : Addr, ai.a = some aB ∧
∃ (aC : Int), (b.cell? (aB.add (d.toNat * 1)) = some (.int .i64 aC)) ∧
CallK Try.prog 31 #[.pointer (some (⟨c, 0, none⟩ : Addr)), .int .i64 aC] b [] (fun v aD => v = .tuple #[] ∧
(I64 (d + 1)) ∧
aA (d + 1) aD ∧ aX (d + 1) aD < aX d b)) ∧
((¬ (d < (ai.n : Int))) →
∃ (aG : Option Addr), (b.cell? ((⟨c, 0, none⟩ : Addr).add 2) = some (.pointer aG)) ∧
∃ aH : Addr, (aG = some aH) ∧
∃ (ar : Sl), (b.cell? (aH.add 0) = some (Sl.v ar)) ∧
((0 : Int) ≤ 0 ∧ 0 < (ar.n : Int)) ∧ ∃ aI : Addr, ar.a = some aI ∧
∃ (j : Int), (b.cell? (aI.add (0 * 1)) = some (.int .i64 j)) ∧
∃ (aJ : Option Addr), (((j < 0)) → b.cell? ((⟨c, 0, none⟩ : Addr).add 2) = some (.pointer aJ)) ∧
∃ aK : Addr, (((j < 0)) → aJ = some aK) ∧
∃ (au : Sl), (((j < 0)) → b.cell? (aK.add 1) = some (Sl.v au)) ∧
∃ aL : Addr, (((j < 0)) → ((0 : Int) ≤ 0 ∧ 0 < (au.n : Int)) ∧  au.a = some aL) ∧
∃ (av : Int), (((j < 0)) → b.cell? (aL.add (0 * 1)) = some (.int .i64 av)) ∧
∃ aM : World → Prop,
((((j < 0) ∧ (av < 0)) →
∃ (aN : Option Addr), (b.cell? ((⟨c, 0, none⟩ : Addr).add 2) = some (.pointer aN)) ∧
CallK Try.prog 32 #[.pointer aN, .int .i64 0, .int .i64 0] b [] (fun v aY => v = .tuple #[] ∧
aM aY)) ∧
(((¬ (j < 0)) ∨ (¬ (av < 0))) →
aM b)) ∧
(∀ (aO : World), aM aO →
∃ (aP : World → Prop) (aZ : World → Nat),
aP aO ∧
(∀ (ax : World), aP ax →
CallK Try.prog 33 #[.pointer (some (⟨c, 0, none⟩ : Addr))] ax [] (fun v am => ∃ (ay : Bool), v = .bool ay ∧
((ay = true) →
aP am ∧ aZ am < aZ ax) ∧
((ay = false) →
∃ (aQ : Option Addr), (am.cell? ((⟨c, 0, none⟩ : Addr).add 2) = some (.pointer aQ)) ∧
CallK Try.prog 34 #[.pointer aQ] am [] (fun v a0 => ∃ (aR : Sl), v = Sl.v aR ∧
R (Sl.v aR) a0)))))))))))
theorem ref21_Match.ok (l : Int) (m : Str) (o : Str) (p : Sl) (q : Sl) (y : Int) (z : Str) (aa : Str) (ab : Sl) (ad : Sl) {R : Value → World → Prop} {w : World} (a1 : ref21_Match.vc l m o p q y z aa ab ad R w) : Calls Try.prog 10 #[.agg #[.int .i64 l, .string (Bs m), .string (Bs o), Sl.v p, Sl.v q], .agg #[.int .i64 y, .string (Bs z), .string (Bs aa), Sl.v ab, Sl.v ad]] w (Ret R) := by
 refine go _ Try.func10 Try.ntmps10 a1 ?_
 refine gS <| gR <| nb fun w4 ak => ?_
 refine nb fun w6 an => ?_
 refine gN <| ge <| tn <| gS <| gS <| gR ?_
 refine gBN 1 5 Try.underlying26 ti_26 <| gT2 ?_
 refine gC [1, 0] Try.func28 fun _ w9 => gE fun al => gQ ?_
 refine g1 r_not ?_
 refine gM ?_
 refine GBN 0 5 Try.underlying26 ti_26 ?_
 refine gE fun ap => GC Try.func28 (fun hg => (nF (g_f hg))) fun aq => ?_
 refine G1 r_not ?_
 refine gpo <| ge <| tn ?_
 refine gi (fun h => ((oT h).imp (fun h => (nT h)) (fun h => (nT h)))) (fun h => ⟨(nF (oF h).1), (nF (oF h).2)⟩) ?_ ?_
 ·refine gS <| gR <| gN <| ge <| tn <| gr <| tr ?_
  exact gz1
 ·refine gk <| tn <| gS <| gD fun k => gT0 <| gE fun r => gA fun aS => gA fun a2 => gE fun t => gA fun aU => gA fun a3 => gE fun u => gA fun aV => gA fun a4 => ?_
  refine gW 0 10 [(1, ⟨Sl, default, fun s => Sl.v s, fun s w => r s w, aS⟩), (3, ⟨Sl, default, fun s => Sl.v s, fun s w => t s w, aU⟩), (6, ⟨(Option Addr), default, fun s => .pointer s, fun s w => u s w, aV⟩), (8, ⟨Sl × Sl × (Option Addr) × Nat, default, fun s => (fun B => .pointer (some ⟨B, 0, none⟩)) s.2.2.2, fun s w' => r s.1 w' ∧ t s.2.1 w' ∧ u s.2.2.1 w' ∧ k.heap.size ≤ s.2.2.2 ∧ Box w' s.2.2.2 70 [Sl.v s.1, Sl.v s.2.1, .pointer s.2.2.1], fun s w' w'' hE h => ⟨(aS s.1 w' w'' hE h.1), (aU s.2.1 w' w'' hE h.2.1), (aV s.2.2.1 w' w'' hE h.2.2.1), h.2.2.2.1, h.2.2.2.2.ext hE⟩⟩)] ?_
  refine gBN 1 5 Try.underlying26 ti_26 ?_
  refine yc rfl Try.func11 (fun w' hE _ => a2 w' hE) (fun _ _ h => h) fun f => ?_
  refine gBN 0 5 Try.underlying26 ti_26 ?_
  refine yc rfl Try.func11 (fun w' hE _ => a3 w' hE) (fun _ _ h => h) fun g => ?_
  refine gBN 1 5 Try.underlying26 ti_26 ?_
  refine gBN 0 5 Try.underlying26 ti_26 ?_
  refine yc rfl Try.func29 (fun w' hE _ => a4 w' hE) (fun _ _ h => h) fun i => ?_
  refine gbu ti_70 Try.underlying70 pl_70 (OPs.of rfl) ?_
  refine yn (fun B => .pointer (some ⟨B, 0, none⟩)) (cs := [Sl.v f, Sl.v g, .pointer i]) rfl (fun _ hA _ => r_box (hA.opv rfl) rfl) (fun _ _ B _ hF hA' h1 h2 => ⟨(f, g, i, B), rfl, (aS f _ _ hA' (hF.2.2.1 (by kernel_rfl))), (aU g _ _ hA' (hF.2.1 (by kernel_rfl))), (aV i _ _ hA' (hF.1 (by kernel_rfl))), h1, h2⟩) fun ⟨af, ag, ah, c⟩ => ?_
  refine gN ?_
  refine eB (B := c) (T := 70) (cs := [Sl.v af, Sl.v ag, .pointer ah]) (fun _ hF => ⟨hF.1.2.2.2.1, hF.1.2.2.2.2⟩) (fun v w' hE hF => v w' af ag ah c hE hF.1.1 hF.1.2.1 hF.1.2.2.1 hF.1.2.2.2.1 hF.1.2.2.2.2) fun x => ?_
  refine gZ <| tn <| gS <| gR ?_
  refine gBN 2 5 Try.underlying26 ti_26 ?_
  refine gC [2, 0] Try.func30 fun _ az => gE fun ai => gQ ?_
  refine gN <| ge <| tn <| gS <| gS <| gR ?_
  refine gN <| ge <| tn <| gb ?_
  refine gX 1 <| gE fun _ => gE fun mu => ?_
  refine l1 mu (fun d => [(7, .int .i64 d)]) [(5, _), (6, _)] (fun _ => []) [] [] fun d b _ => gS <| gS <| gR ?_
  refine gM ?_
  refine gM ?_
  refine g1 (fun a7 => r_len a7 tU22) ?_
  refine g2 r_lss <| ge <| tn ?_
  refine gi dT dF ?_ ?_
  ·refine gk <| tn <| gS <| gb <| gR <| gM ?_
   refine gM ?_
   refine gM ?_
   refine gI1 tU22 ti_3 fun aB => ?_
   refine gE fun aC => gL tU3 ?_
   refine gC [] Try.func31 fun _ aD => gQ <| ge <| bn <| tn <| gR ?_
   refine gM ?_
   refine g2s r_addI ?_
   refine gN <| ge ?_
   exact k1 []
  ·refine gx <| te <| te <| bh <| tn <| gS <| gS <| gR <| gM ?_
   refine g1 r_nilCheck ?_
   refine gF 2 Try.underlying70 ti_67 ?_
   refine gE fun aG => gL tU67 ?_
   refine gnP fun aH => ?_
   refine gF 0 Try.underlying74 ti_22 ?_
   refine gE fun ar => gL tU22 ?_
   refine gI1 tU22 ti_3 fun aI => ?_
   refine gE fun j => gL tU3 ?_
   refine g2 r_lss ?_
   refine gM ?_
   refine G1 r_move ?_
   refine G1 r_nilCheck ?_
   refine GF 2 Try.underlying70 ti_67 ?_
   refine gE fun aJ => GLd tU67 (fun hg => (dT (g_t hg))) ?_
   refine GnP (fun hg => (dT (g_t hg))) fun aK => ?_
   refine GF 1 Try.underlying74 ti_22 ?_
   refine gE fun au => GLd tU22 (fun hg => (dT (g_t hg))) ?_
   refine GI2 tU22 ti_3 (fun hg => (dT (g_t hg))) fun aL => ?_
   refine gE fun av => GLd tU3 (fun hg => (dT (g_t hg))) ?_
   refine G2 r_lss ?_
   refine gpa <| ge <| tn <| gE fun J => ?_
   refine m0 [] [(5, _)] [] [] [] ?_ fun  aO _ => ?_
   ·refine gi (fun h => ⟨(dT (aT h).1), (dT (aT h).2)⟩) (fun h => ((aF h).imp (fun h => (dF h)) (fun h => (dF h)))) ?_ ?_
    ·refine gR <| gM ?_
     refine g1 r_nilCheck ?_
     refine gF 2 Try.underlying70 ti_67 ?_
     refine gE fun aN => gL tU67 ?_
     refine gC [] Try.func32 fun _ aY => gQ <| ge ?_
     exact j0 []
    ·exact gk <| j0 []
   ·refine tn <| gS <| gb <| gE fun _ => gE fun mu => l0 mu [] [(5, _)] [] [] [] fun  ax _ => gS <| gS <| gR ?_
    refine gM ?_
    refine gC [] Try.func33 fun _ am => gE fun ay => gQ <| ge <| tn ?_
    refine gi id id ?_ ?_
    ·exact gk <| tn <| gb <| gk <| bn <| k0 []
    ·refine gx <| te <| te <| bh <| tn <| gS <| gR <| gM ?_
     refine g1 r_nilCheck ?_
     refine gF 2 Try.underlying70 ti_67 ?_
     refine gE fun aQ => gL tU67 ?_
     refine gC [] Try.func34 fun _ a0 => gE fun aR => gQ ?_
     refine gN <| ge <| tn <| gr ?_
     exact gz1
def ref21_W_up.vc (g : Addr) (d : Int) (R : Value → World → Prop) (w : World) : Prop :=
∃ (az : Option Addr), (w.cell? (g.add 2) = some (.pointer az)) ∧
∃ aA : Addr, (az = some aA) ∧
∃ (ad : Sl), (w.cell? (aA.add 0) = some (Sl.v ad)) ∧
((0 : Int) ≤ d ∧ d < (ad.n : Int)) ∧ ∃ aB : Addr, ad.a = some aB ∧
∃ (af : Int), (w.cell? (aB.add (d.toNat * 1)) = some (.int .i64 af)) ∧
((0 ≤ af) →
R (.tuple #[]) w) ∧
((¬ (0 ≤ af)) →
CallK Try.prog 55 #[.pointer (some g), .int .i64 d] w [] (fun v bb => ∃ (b : Int) (aC : Int), v = .tuple #[.int .i64 b, .int .i64 aC] ∧
∀ (l : World), Chg [] bb l →
∃ (ag : Sl), (((¬ (b < 0))) → l.cell? (g.add 0) = some (Sl.v ag)) ∧
∃ aD : Addr, (((¬ (b < 0))) → ((0 : Int) ≤ d ∧ d < (ag.n : Int)) ∧ ag.a = some aD) ∧
∃ (z : Int), (((¬ (b < 0))) → l.cell? ((aD.add (d.toNat * 15)).add 1) = some (.int .i64 z)) ∧
∃ (ah : Sl), (((¬ (b < 0))) → l.cell? (g.add 1) = some (Sl.v ah)) ∧
∃ aG : Addr, (((¬ (b < 0))) → ((0 : Int) ≤ b ∧ b < (ah.n : Int)) ∧ ah.a = some aG) ∧
∃ (aa : Int), (((¬ (b < 0))) → l.cell? ((aG.add (b.toNat * 15)).add 1) = some (.int .i64 aa)) ∧
(((¬ (b < 0))) → I64 (z + aa)) ∧
(((¬ (b < 0))) → I64 ((z + aa) - 2)) ∧
∃ (ab : Bool), (((¬ (b < 0))) → ∀ w' : World, Ext l w' → Calls Try.prog 56 #[.int .i64 aC, .int .i64 ((z + aa) - 2)] w' (Ret fun v w'' => Ext w' w'' ∧ v = .bool ab)) ∧
(((b < 0) ∨ (ab = false)) →
∀ (o : World), Chg [] l o →
R (.tuple #[]) o) ∧
(((¬ (b < 0)) ∧ (ab = true)) →
∀ (o : World), Chg [] l o →
∃ (aH : Option Addr), (o.cell? (g.add 2) = some (.pointer aH)) ∧
CallK Try.prog 32 #[.pointer aH, .int .i64 d, .int .i64 b] o [] (fun v p => v = .tuple #[] ∧
∃ (ai : Sl), (p.cell? (g.add 0) = some (Sl.v ai)) ∧
((0 : Int) ≤ d ∧ d < (ai.n : Int)) ∧ ∃ aI : Addr, ai.a = some aI ∧
∃ (q : Int), (p.cell? ((aI.add (d.toNat * 15)).add 1) = some (.int .i64 q)) ∧
∃ (aj : Sl), (((¬ (8 < q))) → p.cell? (g.add 1) = some (Sl.v aj)) ∧
∃ aJ : Addr, (((¬ (8 < q))) → ((0 : Int) ≤ b ∧ b < (aj.n : Int)) ∧  aj.a = some aJ) ∧
∃ (ak : Int), (((¬ (8 < q))) → p.cell? ((aJ.add (b.toNat * 15)).add 1) = some (.int .i64 ak)) ∧
(((8 < q) ∨ (8 < ak)) →
R (.tuple #[]) p) ∧
(((¬ (8 < q)) ∧ (¬ (8 < ak))) →
∀ (m : World), Chg [] p m →
∃ (al : Sl), (m.cell? (g.add 0) = some (Sl.v al)) ∧
∃ aK : Addr, (((0 : Int) ≤ d ∧ d < (al.n : Int)) ∧ al.a = some aK) ∧
∃ (aL : Int) (aM : Str) (aN : Str) (aO : Sl) (aP : Sl), (Cells m ((aK.add (d.toNat * 15)).add 10) [.int .i64 aL, .string (Bs aM), .string (Bs aN), Sl.v aO, Sl.v aP]) ∧
∃ (am : Sl), (m.cell? (g.add 1) = some (Sl.v am)) ∧
∃ aQ : Addr, (((0 : Int) ≤ b ∧ b < (am.n : Int)) ∧ am.a = some aQ) ∧
∃ (aR : Int) (aS : Str) (aU : Str) (aV : Sl) (aX : Sl), (Cells m ((aQ.add (b.toNat * 15)).add 10) [.int .i64 aR, .string (Bs aS), .string (Bs aU), Sl.v aV, Sl.v aX]) ∧
∃ r : Int → Sl → World → Prop, (∀ k : Int, ∀ f : Sl, ∀ w' w'' : World, Ext w' w'' → r k f w' → r k f w'') ∧
(∀ w' : World, Ext m w' → Calls Try.prog 57 #[.agg #[.int .i64 aL, .string (Bs aM), .string (Bs aN), Sl.v aO, Sl.v aP], .agg #[.int .i64 aR, .string (Bs aS), .string (Bs aU), Sl.v aV, Sl.v aX]] w' (Ret fun v w'' => Ext w' w'' ∧ ∃ k : Int, ∃ f : Sl, v = .tuple #[.int .i64 k, Sl.v f] ∧ r k f w'')) ∧
∀ (an : World) (k : Int) (f : Sl), Ext m an → r k f an → 
∃ (ao : Int → World → Prop) (ap : Int → World → Nat),
ao 0 an ∧
(∀ (c : Int) (t : World), ao c t →
((c < (f.n : Int)) →
∀ (i : World), Chg [] t i →
∃ (aY : Option Addr), (i.cell? (g.add 2) = some (.pointer aY)) ∧
∃ aZ : Addr, (aY = some aZ) ∧
∃ (aq : Sl), (i.cell? (aZ.add 0) = some (Sl.v aq)) ∧
∃ a0 : Addr, (((0 : Int) ≤ c ∧ c < (f.n : Int)) ∧ f.a = some a0) ∧
∃ (u : Int), (i.cell? ((a0.add (c.toNat * 2)).add 0) = some (.int .i64 u)) ∧
(I64 (d + u)) ∧
∃ a1 : Addr, (((0 : Int) ≤ d + u ∧ d + u < (aq.n : Int)) ∧ aq.a = some a1) ∧
∃ (j : Int), (i.cell? (a1.add ((d + u).toNat * 1)) = some (.int .i64 j)) ∧
∃ (a2 : Option Addr), (((j < 0)) → i.cell? (g.add 2) = some (.pointer a2)) ∧
∃ a3 : Addr, (((j < 0)) → a2 = some a3) ∧
∃ (ar : Sl), (((j < 0)) → i.cell? (a3.add 1) = some (Sl.v ar)) ∧
∃ a4 : Addr, (((j < 0)) → ((0 : Int) ≤ c ∧ c < (f.n : Int)) ∧ f.a = some a4) ∧
∃ (x : Int), (((j < 0)) → i.cell? ((a4.add (c.toNat * 2)).add 1) = some (.int .i64 x)) ∧
(((j < 0)) → I64 (b + x)) ∧
∃ a5 : Addr, (((j < 0)) → ((0 : Int) ≤ b + x ∧ b + x < (ar.n : Int)) ∧ ar.a = some a5) ∧
∃ (au : Int), (((j < 0)) → i.cell? (a5.add ((b + x).toNat * 1)) = some (.int .i64 au)) ∧
(((j < 0) ∧ (au < 0)) →
∀ (y : World), Chg [] i y →
∃ (a6 : Option Addr), (y.cell? (g.add 2) = some (.pointer a6)) ∧
∃ a7 : Addr, (((0 : Int) ≤ c ∧ c < (f.n : Int)) ∧ f.a = some a7) ∧
∃ (av : Int), (y.cell? ((a7.add (c.toNat * 2)).add 0) = some (.int .i64 av)) ∧
(I64 (d + av)) ∧
∃ a8 : Addr, (((0 : Int) ≤ c ∧ c < (f.n : Int)) ∧ f.a = some a8) ∧
∃ (ax : Int), (y.cell? ((a8.add (c.toNat * 2)).add 1) = some (.int .i64 ax)) ∧
(I64 (b + ax)) ∧
∀ (a9 : World), Chg [] y a9 →
CallK Try.prog 32 #[.pointer a6, .int .i64 (d + av), .int .i64 (b + ax)] a9 [] (fun v ba => v = .tuple #[] ∧
(I64 (c + 1)) ∧
ao (c + 1) ba ∧ ap (c + 1) ba < ap c t)) ∧
(((¬ (j < 0)) ∨ (¬ (au < 0))) →
(I64 (c + 1)) ∧
∀ (ay : World), Chg [] i ay →
ao (c + 1) ay ∧ ap (c + 1) ay < ap c t)) ∧
((¬ (c < (f.n : Int))) →
R (.tuple #[]) t)))))))
theorem ref21_W_up.ok (g : Addr) (d : Int) {R : Value → World → Prop} {w : World} (bd : ref21_W_up.vc g d R w) : Calls Try.prog 31 #[.pointer (some g), .int .i64 d] w (Ret R) := by
 refine go _ Try.func31 Try.ntmps31 bd ?_
 refine gS <| gS <| gR <| gM ?_
 refine g1 r_nilCheck ?_
 refine gF 2 Try.underlying70 ti_67 ?_
 refine gE fun az => gL tU67 ?_
 refine gnP fun aA => ?_
 refine gF 0 Try.underlying74 ti_22 ?_
 refine gE fun ad => gL tU22 ?_
 refine gM ?_
 refine gI1 tU22 ti_3 fun aB => ?_
 refine gE fun af => gL tU3 ?_
 refine g2 r_geq <| ge <| tn ?_
 refine gi dT dF ?_ ?_
 ·exact gr <| tr <| gz0
 ·refine gk <| tn <| gS <| gR <| gM ?_
  refine gM ?_
  refine gC [] Try.func55 fun _ bb => gE fun b => gE fun aC => gQ ?_
  refine gM ?_
  refine gx1 ?_
  refine gx1 ?_
  refine gN ?_
  refine gN <| ge <| tn <| gS <| gS ?_
  refine gD fun l => gT0 <| gE fun ag => gA fun bf => gE fun aD => gA fun bg => gE fun z => gA fun bi => gE fun ah => gA fun bj => gE fun aG => gA fun bk => gE fun aa => gA fun bl => gA fun bo => gA fun bp => gE fun ab => gA fun bq => ?_
  refine gW 0 25 [(22, rsG (true && ((decide (b < 0)) == false)) () (fun _ => .bool ab) (fun _ _ => True) (fun _ _ _ _ _ => trivial))] ?_
  refine gM ?_
  refine g2 r_lss ?_
  refine gM ?_
  refine G1 r_move ?_
  refine G1 r_move ?_
  refine G1 r_nilCheck ?_
  refine GF 0 Try.underlying70 ti_31 ?_
  refine gP bf <| GLd tU31 (fun hg => (dF (g_f hg))) ?_
  refine G1 r_move ?_
  refine GIx tU31 ti_38 (fun hg => bg (dF (g_f hg))) ?_
  refine GF 1 Try.underlying38 ti_3 ?_
  refine gP bi <| GLd tU3 (fun hg => (dF (g_f hg))) ?_
  refine G1 r_move ?_
  refine G1 r_nilCheck ?_
  refine GF 1 Try.underlying70 ti_31 ?_
  refine gP bj <| GLd tU31 (fun hg => (dF (g_f hg))) ?_
  refine G1 r_move ?_
  refine GIx tU31 ti_38 (fun hg => bk (dF (g_f hg))) ?_
  refine GF 1 Try.underlying38 ti_3 ?_
  refine gP bl <| GLd tU3 (fun hg => (dF (g_f hg))) ?_
  refine gP bo <| G2s r_addI (fun hg => (dF (g_f hg))) ?_
  refine gP bp <| G2s r_subI (fun hg => (dF (g_f hg))) ?_
  refine YC rfl Try.func56 (fun hg w' hE _ => bq (dF (g_f hg)) w' hE) (fun _ _ h => ⟨(), h, trivial⟩) fun _ => ?_
  refine G1 r_not ?_
  refine gpo ?_
  refine eT fun o => ?_
  refine gZ <| tn ?_
  refine gi (fun h => ((oT h).imp (fun h => (dT h)) (fun h => (nT h)))) (fun h => ⟨(dF (oF h).1), (nF (oF h).2)⟩) ?_ ?_
  ·exact gr <| tr <| gT0 <| gz0
  ·refine gk <| tn <| gS <| gR <| gM ?_
   refine g1 r_nilCheck ?_
   refine gF 2 Try.underlying70 ti_67 <| gT0 ?_
   refine gE fun aH => gL tU67 ?_
   refine gM ?_
   refine gM ?_
   refine gC [] Try.func32 fun _ p => gQ <| ge <| tn <| gS <| gS <| gR ?_
   refine gM ?_
   refine g1 r_nilCheck ?_
   refine gF 0 Try.underlying70 ti_31 ?_
   refine gE fun ai => gL tU31 ?_
   refine gM ?_
   refine gI1 tU31 ti_38 fun aI => ?_
   refine gF 1 Try.underlying38 ti_3 ?_
   refine gE fun q => gL tU3 ?_
   refine g2 r_gtr ?_
   refine gM ?_
   refine G1 r_move ?_
   refine G1 r_nilCheck ?_
   refine GF 1 Try.underlying70 ti_31 ?_
   refine gE fun aj => GLd tU31 (fun hg => (dF (g_f hg))) ?_
   refine G1 r_move ?_
   refine GI2 tU31 ti_38 (fun hg => (dF (g_f hg))) fun aJ => ?_
   refine GF 1 Try.underlying38 ti_3 ?_
   refine gE fun ak => GLd tU3 (fun hg => (dF (g_f hg))) ?_
   refine G2 r_gtr ?_
   refine gpo <| ge <| tn ?_
   refine gi (fun h => ((oT h).imp (fun h => (dT h)) (fun h => (dT h)))) (fun h => ⟨(dF (oF h).1), (dF (oF h).2)⟩) ?_ ?_
   ·exact gr <| tr <| gz0
   ·refine gk <| tn <| gS <| gD fun m => gT0 <| gE fun al => gA fun bs => gE fun aK => gA fun bt => gE fun aL => gE fun aM => gE fun aN => gE fun aO => gE fun aP => gA fun bu => gE fun am => gA fun bv => gE fun aQ => gA fun bx => gE fun aR => gE fun aS => gE fun aU => gE fun aV => gE fun aX => gA fun bz => gE fun r => gA fun bA => gA fun bB => ?_
    refine gW 0 22 [(16, ⟨Int × Sl, default, fun s => .tuple #[.int .i64 s.1, Sl.v s.2], fun s w => r s.1 s.2 w, fun s => bA s.1 s.2⟩)] ?_
    refine gM ?_
    refine g1 r_nilCheck ?_
    refine gF 0 Try.underlying70 ti_31 ?_
    refine gP bs <| gL tU31 ?_
    refine gM ?_
    refine gIx tU31 ti_38 bt ?_
    refine gF 10 Try.underlying38 ti_26 ?_
    refine gP bu <| gLN Try.underlying26 ti_26 ?_
    refine gM ?_
    refine g1 r_nilCheck ?_
    refine gF 1 Try.underlying70 ti_31 ?_
    refine gP bv <| gL tU31 ?_
    refine gM ?_
    refine gIx tU31 ti_38 bx ?_
    refine gF 10 Try.underlying38 ti_26 ?_
    refine gP bz <| gLN Try.underlying26 ti_26 ?_
    refine yc rfl Try.func57 (fun w' hE _ => bB w' hE) (fun _ _ ⟨k, f, h1, h2⟩ => ⟨(k, f), h1, h2⟩) fun ⟨k, f⟩ => ?_
    refine gM ?_
    refine gx1 ?_
    refine gx1 ?_
    refine gN ?_
    refine gN ?_
    refine eF (fun v w' hE hF => v w' k f hE hF.1) fun an => ?_
    refine gZ <| tn <| gS <| gR ?_
    refine gN <| ge <| tn <| gb <| gE fun _ => gE fun mu => ?_
    refine l1 mu (fun c => [(8, .int .i64 c)]) [(0, _), (1, _), (4, _), (7, _)] (fun _ => []) [] [] fun c t _ => gS <| gS <| gR ?_
    refine gM ?_
    refine gM ?_
    refine g1 (fun bF => r_len bF tU29) ?_
    refine g2 r_lss <| ge <| tn ?_
    refine gi dT dF ?_ ?_
    ·refine gk <| tn <| gS <| gb <| gS <| gD fun i => gT0 ?_
     refine gW 0 36 [] ?_
     refine gM ?_
     refine g1 r_nilCheck ?_
     refine gF 2 Try.underlying70 ti_67 ?_
     refine gE fun aY => gL tU67 ?_
     refine gnP fun aZ => ?_
     refine gF 0 Try.underlying74 ti_22 ?_
     refine gE fun aq => gL tU22 ?_
     refine gM ?_
     refine gM ?_
     refine gM ?_
     refine gI2 tU29 ti_40 fun a0 => ?_
     refine gF 0 Try.underlying40 ti_3 ?_
     refine gE fun u => gL tU3 ?_
     refine g2s r_addI ?_
     refine gI2 tU22 ti_3 fun a1 => ?_
     refine gE fun j => gL tU3 ?_
     refine g2 r_lss ?_
     refine gM ?_
     refine G1 r_move ?_
     refine G1 r_nilCheck ?_
     refine GF 2 Try.underlying70 ti_67 ?_
     refine gE fun a2 => GLd tU67 (fun hg => (dT (g_t hg))) ?_
     refine GnP (fun hg => (dT (g_t hg))) fun a3 => ?_
     refine GF 1 Try.underlying74 ti_22 ?_
     refine gE fun ar => GLd tU22 (fun hg => (dT (g_t hg))) ?_
     refine G1 r_move ?_
     refine G1 r_move ?_
     refine G1 r_move ?_
     refine GI2 tU29 ti_40 (fun hg => (dT (g_t hg))) fun a4 => ?_
     refine GF 1 Try.underlying40 ti_3 ?_
     refine gE fun x => GLd tU3 (fun hg => (dT (g_t hg))) ?_
     refine G2s r_addI (fun hg => (dT (g_t hg))) ?_
     refine GI2 tU22 ti_3 (fun hg => (dT (g_t hg))) fun a5 => ?_
     refine gE fun au => GLd tU3 (fun hg => (dT (g_t hg))) ?_
     refine G2 r_lss ?_
     refine gpa <| geT fun ay => ?_
     refine gZ <| tn ?_
     refine gi (fun h => ⟨(dT (aT h).1), (dT (aT h).2)⟩) (fun h => ((aF h).imp (fun h => (dF h)) (fun h => (dF h)))) ?_ ?_
     ·refine gD fun y => gT0 ?_
      refine gW 0 18 [] ?_
      refine gM ?_
      refine g1 r_nilCheck ?_
      refine gF 2 Try.underlying70 ti_67 ?_
      refine gE fun a6 => gL tU67 ?_
      refine gM ?_
      refine gM ?_
      refine gM ?_
      refine gI2 tU29 ti_40 fun a7 => ?_
      refine gF 0 Try.underlying40 ti_3 ?_
      refine gE fun av => gL tU3 ?_
      refine g2s r_addI ?_
      refine gM ?_
      refine gM ?_
      refine gM ?_
      refine gI2 tU29 ti_40 fun a8 => ?_
      refine gF 1 Try.underlying40 ti_3 ?_
      refine gE fun ax => gL tU3 ?_
      refine g2s r_addI <| geT fun a9 => ?_
      refine gO 18 <| gT0 ?_
      refine gC [] Try.func32 fun _ ba => gQ <| geO ?_
      refine gZ <| bn <| tn <| gR ?_
      refine gM ?_
      refine g2s r_addI ?_
      refine gN <| ge ?_
      exact k1 []
     ·refine gk <| bn <| tn <| gR <| gM ?_
      refine g2s r_addI ?_
      refine gN <| ge <| gT0 ?_
      exact k1 []
    ·exact gx <| te <| te <| bh <| gze <| gz0
def ref21_W_down.vc (l : Addr) (R : Value → World → Prop) (w : World) : Prop :=
∃ (ag : Int → World → Prop) (ah : Int → World → Nat),
ag 0 w ∧
(∀ (c : Int) (m : World), ag c m →
∃ (ai : Sl), (m.cell? (l.add 0) = some (Sl.v ai)) ∧
((c < (ai.n : Int)) →
∃ (ar : Option Addr), (m.cell? (l.add 2) = some (.pointer ar)) ∧
∃ au : Addr, (ar = some au) ∧
∃ (aj : Sl), (m.cell? (au.add 0) = some (Sl.v aj)) ∧
((0 : Int) ≤ c ∧ c < (aj.n : Int)) ∧ ∃ av : Addr, aj.a = some av ∧
∃ (ak : Int), (m.cell? (av.add (c.toNat * 1)) = some (.int .i64 ak)) ∧
((ak < 0) →
(I64 (c + 1)) ∧
ag (c + 1) m ∧ ah (c + 1) m < ah c m) ∧
((¬ (ak < 0)) →
∀ (o : World), Chg [] m o →
∃ (ax : Sl), (o.cell? (l.add 0) = some (Sl.v ax)) ∧
∃ p : Sl → World → Prop, (∀ i : Sl, ∀ w' w'' : World, Ext w' w'' → p i w' → p i w'') ∧
(∀ w' : World, Ext o w' → Calls Try.prog 17 #[Sl.v ax, .int .i64 c] w' (Ret fun v w'' => Ext w' w'' ∧ ∃ i : Sl, v = Sl.v i ∧ p i w'')) ∧
∃ (ay : Sl), (o.cell? (l.add 1) = some (Sl.v ay)) ∧
∃ (az : Option Addr), (o.cell? (l.add 2) = some (.pointer az)) ∧
∃ aA : Addr, (az = some aA) ∧
∃ (al : Sl), (o.cell? (aA.add 0) = some (Sl.v al)) ∧
∃ aB : Addr, (((0 : Int) ≤ c ∧ c < (al.n : Int)) ∧ al.a = some aB) ∧
∃ (aC : Int), (o.cell? (aB.add (c.toNat * 1)) = some (.int .i64 aC)) ∧
∃ q : Sl → World → Prop, (∀ j : Sl, ∀ w' w'' : World, Ext w' w'' → q j w' → q j w'') ∧
(∀ w' : World, Ext o w' → Calls Try.prog 17 #[Sl.v ay, .int .i64 aC] w' (Ret fun v w'' => Ext w' w'' ∧ ∃ j : Sl, v = Sl.v j ∧ q j w'')) ∧
∀ (x : World) (i : Sl) (j : Sl), Ext o x → p i x → q j x → 
∃ (aD : Int → World → Prop) (bb : Int → World → Nat),
aD 0 x ∧
(∀ (d : Int) (r : World), aD d r →
((d < (i.n : Int)) →
∃ (aG : Int → World → Prop) (bd : Int → World → Nat),
aG 0 r ∧
(∀ (f : Int) (t : World), aG f t →
((f < (j.n : Int)) →
∀ (g : World), Chg [] t g →
∃ (aH : Option Addr), (g.cell? (l.add 2) = some (.pointer aH)) ∧
∃ aI : Addr, (aH = some aI) ∧
∃ (am : Sl), (g.cell? (aI.add 0) = some (Sl.v am)) ∧
∃ aJ : Addr, (((0 : Int) ≤ d ∧ d < (i.n : Int)) ∧ i.a = some aJ) ∧
∃ (y : Int), (g.cell? (aJ.add (d.toNat * 1)) = some (.int .i64 y)) ∧
∃ aK : Addr, (((0 : Int) ≤ y ∧ y < (am.n : Int)) ∧ am.a = some aK) ∧
∃ (b : Int), (g.cell? (aK.add (y.toNat * 1)) = some (.int .i64 b)) ∧
∃ (aL : Option Addr), (((b < 0)) → g.cell? (l.add 2) = some (.pointer aL)) ∧
∃ aM : Addr, (((b < 0)) → aL = some aM) ∧
∃ (an : Sl), (((b < 0)) → g.cell? (aM.add 1) = some (Sl.v an)) ∧
∃ aN : Addr, (((b < 0)) → ((0 : Int) ≤ f ∧ f < (j.n : Int)) ∧ j.a = some aN) ∧
∃ (z : Int), (((b < 0)) → g.cell? (aN.add (f.toNat * 1)) = some (.int .i64 z)) ∧
∃ aO : Addr, (((b < 0)) → ((0 : Int) ≤ z ∧ z < (an.n : Int)) ∧ an.a = some aO) ∧
∃ (k : Int), (((b < 0)) → g.cell? (aO.add (z.toNat * 1)) = some (.int .i64 k)) ∧
∃ (ao : Sl), ((((b < 0) ∧ (k < 0))) → g.cell? (l.add 0) = some (Sl.v ao)) ∧
∃ aP : Addr, ((((b < 0) ∧ (k < 0))) → ((0 : Int) ≤ d ∧ d < (i.n : Int)) ∧ i.a = some aP) ∧
∃ (aa : Int), ((((b < 0) ∧ (k < 0))) → g.cell? (aP.add (d.toNat * 1)) = some (.int .i64 aa)) ∧
∃ aQ : Addr, ((((b < 0) ∧ (k < 0))) → ((0 : Int) ≤ aa ∧ aa < (ao.n : Int)) ∧ ao.a = some aQ) ∧
∃ (aR : Int) (aS : Str) (aU : Str) (aV : Sl) (aX : Sl), ((((b < 0) ∧ (k < 0))) → Cells g ((aQ.add (aa.toNat * 15)).add 5) [.int .i64 aR, .string (Bs aS), .string (Bs aU), Sl.v aV, Sl.v aX]) ∧
∃ (ap : Sl), ((((b < 0) ∧ (k < 0))) → g.cell? (l.add 1) = some (Sl.v ap)) ∧
∃ aY : Addr, ((((b < 0) ∧ (k < 0))) → ((0 : Int) ≤ f ∧ f < (j.n : Int)) ∧ j.a = some aY) ∧
∃ (ab : Int), ((((b < 0) ∧ (k < 0))) → g.cell? (aY.add (f.toNat * 1)) = some (.int .i64 ab)) ∧
∃ aZ : Addr, ((((b < 0) ∧ (k < 0))) → ((0 : Int) ≤ ab ∧ ab < (ap.n : Int)) ∧ ap.a = some aZ) ∧
∃ (a0 : Int) (a1 : Str) (a2 : Str) (a3 : Sl) (a4 : Sl), ((((b < 0) ∧ (k < 0))) → Cells g ((aZ.add (ab.toNat * 15)).add 5) [.int .i64 a0, .string (Bs a1), .string (Bs a2), Sl.v a3, Sl.v a4]) ∧
∃ (ad : Bool), ((((b < 0) ∧ (k < 0))) → ∀ w' : World, Ext g w' → Calls Try.prog 58 #[.agg #[.int .i64 aR, .string (Bs aS), .string (Bs aU), Sl.v aV, Sl.v aX], .agg #[.int .i64 a0, .string (Bs a1), .string (Bs a2), Sl.v a3, Sl.v a4]] w' (Ret fun v w'' => Ext w' w'' ∧ v = .bool ad)) ∧
((((b < 0) ∧ (k < 0)) ∧ (ad = true)) →
∀ (u : World), Chg [] g u →
∃ (a5 : Option Addr), (u.cell? (l.add 2) = some (.pointer a5)) ∧
∃ a6 : Addr, (((0 : Int) ≤ d ∧ d < (i.n : Int)) ∧ i.a = some a6) ∧
∃ (a7 : Int), (u.cell? (a6.add (d.toNat * 1)) = some (.int .i64 a7)) ∧
∃ a8 : Addr, (((0 : Int) ≤ f ∧ f < (j.n : Int)) ∧ j.a = some a8) ∧
∃ (a9 : Int), (u.cell? (a8.add (f.toNat * 1)) = some (.int .i64 a9)) ∧
∀ (ba : World), Chg [] u ba →
CallK Try.prog 32 #[.pointer a5, .int .i64 a7, .int .i64 a9] ba [] (fun v bf => v = .tuple #[] ∧
R (.bool true) bf)) ∧
((((¬ (b < 0)) ∨ (¬ (k < 0))) ∨ (ad = false)) →
(I64 (f + 1)) ∧
∀ (aq : World), Chg [] g aq →
aG (f + 1) aq ∧ bd (f + 1) aq < bd f t)) ∧
((¬ (f < (j.n : Int))) →
(I64 (d + 1)) ∧
aD (d + 1) t ∧ bb (d + 1) t < bb d r))) ∧
((¬ (d < (i.n : Int))) →
(I64 (c + 1)) ∧
ag (c + 1) r ∧ ah (c + 1) r < ah c m)))) ∧
((¬ (c < (ai.n : Int))) →
R (.bool false) m))
theorem ref21_W_down.ok (l : Addr) {R : Value → World → Prop} {w : World} (bg : ref21_W_down.vc l R w) : Calls Try.prog 33 #[.pointer (some l)] w (Ret R) := by
 refine go _ Try.func33 Try.ntmps33 bg ?_
 refine gS <| gR <| gN <| ge <| tn <| gS <| gS <| gR ?_
 refine gN <| ge <| tn <| gb <| gE fun _ => gE fun mu => ?_
 refine l1 mu (fun c => [(3, .int .i64 c)]) [(0, _)] (fun _ => []) [] [] fun c m _ => gS <| gS <| gR ?_
 refine gM ?_
 refine gM ?_
 refine g1 r_nilCheck ?_
 refine gF 0 Try.underlying70 ti_31 ?_
 refine gE fun ai => gL tU31 ?_
 refine g1 (fun af => r_len af tU31) ?_
 refine g2 r_lss <| ge <| tn ?_
 refine gi dT dF ?_ ?_
 ·refine gk <| tn <| gS <| gb <| gS <| gS <| gR <| gM ?_
  refine g1 r_nilCheck ?_
  refine gF 2 Try.underlying70 ti_67 ?_
  refine gE fun ar => gL tU67 ?_
  refine gnP fun au => ?_
  refine gF 0 Try.underlying74 ti_22 ?_
  refine gE fun aj => gL tU22 ?_
  refine gM ?_
  refine gI1 tU22 ti_3 fun av => ?_
  refine gE fun ak => gL tU3 ?_
  refine g2 r_lss <| ge <| tn ?_
  refine gi dT dF ?_ ?_
  ·refine gx <| te <| bh <| tn <| gR <| gM ?_
   refine g2s r_addI ?_
   refine gN <| ge ?_
   exact k1 []
  ·refine gk <| tn <| gS <| gD fun o => gT0 <| gE fun ax => gA fun bi => gE fun p => gA fun bj => gA fun bk => gE fun ay => gA fun bl => gE fun az => gA fun bo => gE fun aA => gA fun bp => gE fun al => gA fun bq => gE fun aB => gA fun bs => gE fun aC => gA fun bt => gE fun q => gA fun bu => gA fun bv => ?_
   refine gW 0 23 [(5, ⟨Sl, default, fun s => Sl.v s, fun s w => p s w, bj⟩), (20, ⟨Sl, default, fun s => Sl.v s, fun s w => q s w, bu⟩)] ?_
   refine gM ?_
   refine g1 r_nilCheck ?_
   refine gF 0 Try.underlying70 ti_31 ?_
   refine gP bi <| gL tU31 ?_
   refine gM ?_
   refine yc rfl Try.func17 (fun w' hE _ => bk w' hE) (fun _ _ h => h) fun i => ?_
   refine gM ?_
   refine g1 r_nilCheck ?_
   refine gF 1 Try.underlying70 ti_31 ?_
   refine gP bl <| gL tU31 ?_
   refine gM ?_
   refine g1 r_nilCheck ?_
   refine gF 2 Try.underlying70 ti_67 ?_
   refine gP bo <| gL tU67 ?_
   refine gnx bp ?_
   refine gF 0 Try.underlying74 ti_22 ?_
   refine gP bq <| gL tU22 ?_
   refine gM ?_
   refine gIx tU22 ti_3 bs ?_
   refine gP bt <| gL tU3 ?_
   refine yc rfl Try.func17 (fun w' hE _ => bv w' hE) (fun _ _ h => h) fun j => ?_
   refine gN ?_
   refine gN ?_
   refine eF (fun v w' hE hF => v w' i j hE hF.2.1 hF.1) fun x => ?_
   refine gZ <| tn <| gS <| gR ?_
   refine gN <| ge <| tn <| gb <| gE fun _ => gE fun mu => ?_
   refine l1 mu (fun d => [(6, .int .i64 d)]) [(0, _), (3, _), (4, _), (5, _)] (fun _ => []) [] [] fun d r _ => gS <| gS <| gR ?_
   refine gM ?_
   refine gM ?_
   refine g1 (fun af => r_len af tU22) ?_
   refine g2 r_lss <| ge <| tn ?_
   refine gi dT dF ?_ ?_
   ·refine gk <| tn <| gS <| gb <| gS <| gR <| gN <| ge <| tn <| gb <| gE fun _ => gE fun mu => ?_
    refine l1 mu (fun f => [(7, .int .i64 f)]) [(0, _), (3, _), (4, _), (5, _), (6, _)] (fun _ => []) [] [] fun f t _ => gS <| gS <| gR ?_
    refine gM ?_
    refine gM ?_
    refine g1 (fun af => r_len af tU22) ?_
    refine g2 r_lss <| ge <| tn ?_
    refine gi dT dF ?_ ?_
    ·refine gk <| tn <| gS <| gb <| gS <| gD fun g => gT0 <| gE fun aH => gA fun bx => gE fun aI => gA fun bz => gE fun am => gA fun bA => gE fun aJ => gA fun bB => gE fun y => gA fun bC => gE fun aK => gA fun bD => gE fun b => gA fun bF => gE fun aL => gA fun bG => gE fun aM => gA fun bH => gE fun an => gA fun bI => gE fun aN => gA fun bJ => gE fun z => gA fun bK => gE fun aO => gA fun bL => gE fun k => gA fun bM => gE fun ao => gA fun bN => gE fun aP => gA fun bO => gE fun aa => gA fun bP => gE fun aQ => gA fun bQ => gE fun aR => gE fun aS => gE fun aU => gE fun aV => gE fun aX => gA fun bR => gE fun ap => gA fun bS => gE fun aY => gA fun bT => gE fun ab => gA fun bU => gE fun aZ => gA fun bV => gE fun a0 => gE fun a1 => gE fun a2 => gE fun a3 => gE fun a4 => gA fun bX => gE fun ad => gA fun bY => ?_
     refine gW 0 55 [(53, rsG (true && (((decide (b < 0)) && (decide (k < 0))) == true)) () (fun _ => .bool ad) (fun _ _ => True) (fun _ _ _ _ _ => trivial))] ?_
     refine gM ?_
     refine g1 r_nilCheck ?_
     refine gF 2 Try.underlying70 ti_67 ?_
     refine gP bx <| gL tU67 ?_
     refine gnx bz ?_
     refine gF 0 Try.underlying74 ti_22 ?_
     refine gP bA <| gL tU22 ?_
     refine gM ?_
     refine gM ?_
     refine gIx tU22 ti_3 bB ?_
     refine gP bC <| gL tU3 ?_
     refine gIx tU22 ti_3 bD ?_
     refine gP bF <| gL tU3 ?_
     refine g2 r_lss ?_
     refine gM ?_
     refine G1 r_move ?_
     refine G1 r_nilCheck ?_
     refine GF 2 Try.underlying70 ti_67 ?_
     refine gP bG <| GLd tU67 (fun hg => (dT (g_t hg))) ?_
     refine Gnx (fun hg => bH (dT (g_t hg))) ?_
     refine GF 1 Try.underlying74 ti_22 ?_
     refine gP bI <| GLd tU22 (fun hg => (dT (g_t hg))) ?_
     refine G1 r_move ?_
     refine G1 r_move ?_
     refine GIx tU22 ti_3 (fun hg => bJ (dT (g_t hg))) ?_
     refine gP bK <| GLd tU3 (fun hg => (dT (g_t hg))) ?_
     refine GIx tU22 ti_3 (fun hg => bL (dT (g_t hg))) ?_
     refine gP bM <| GLd tU3 (fun hg => (dT (g_t hg))) ?_
     refine G2 r_lss ?_
     refine gpa ?_
     refine gM ?_
     refine G1 r_move ?_
     refine G1 r_nilCheck ?_
     refine GF 0 Try.underlying70 ti_31 ?_
     refine gP bN <| GLd tU31 (fun hg => ⟨(dT (aT (g_t hg)).1), (dT (aT (g_t hg)).2)⟩) ?_
     refine G1 r_move ?_
     refine G1 r_move ?_
     refine GIx tU22 ti_3 (fun hg => bO ⟨(dT (aT (g_t hg)).1), (dT (aT (g_t hg)).2)⟩) ?_
     refine gP bP <| GLd tU3 (fun hg => ⟨(dT (aT (g_t hg)).1), (dT (aT (g_t hg)).2)⟩) ?_
     refine GIx tU31 ti_38 (fun hg => bQ ⟨(dT (aT (g_t hg)).1), (dT (aT (g_t hg)).2)⟩) ?_
     refine GF 5 Try.underlying38 ti_26 ?_
     refine gP bR <| GLN Try.underlying26 ti_26 (fun hg => ⟨(dT (aT (g_t hg)).1), (dT (aT (g_t hg)).2)⟩) ?_
     refine G1 r_move ?_
     refine G1 r_nilCheck ?_
     refine GF 1 Try.underlying70 ti_31 ?_
     refine gP bS <| GLd tU31 (fun hg => ⟨(dT (aT (g_t hg)).1), (dT (aT (g_t hg)).2)⟩) ?_
     refine G1 r_move ?_
     refine G1 r_move ?_
     refine GIx tU22 ti_3 (fun hg => bT ⟨(dT (aT (g_t hg)).1), (dT (aT (g_t hg)).2)⟩) ?_
     refine gP bU <| GLd tU3 (fun hg => ⟨(dT (aT (g_t hg)).1), (dT (aT (g_t hg)).2)⟩) ?_
     refine GIx tU31 ti_38 (fun hg => bV ⟨(dT (aT (g_t hg)).1), (dT (aT (g_t hg)).2)⟩) ?_
     refine GF 5 Try.underlying38 ti_26 ?_
     refine gP bX <| GLN Try.underlying26 ti_26 (fun hg => ⟨(dT (aT (g_t hg)).1), (dT (aT (g_t hg)).2)⟩) ?_
     refine YC rfl Try.func58 (fun hg w' hE _ => bY ⟨(dT (aT (g_t hg)).1), (dT (aT (g_t hg)).2)⟩ w' hE) (fun _ _ h => ⟨(), h, trivial⟩) fun _ => ?_
     refine gpa ?_
     refine eT fun aq => ?_
     refine gZ <| tn ?_
     refine gi (fun h => ⟨⟨(dT (aT (aT h).1).1), (dT (aT (aT h).1).2)⟩, (aT h).2⟩) (fun h => ((aF h).imp (fun h => ((aF h).imp (fun h => (dF h)) (fun h => (dF h)))) (fun h => h))) ?_ ?_
     ·refine gS <| gD fun u => gT0 ?_
      refine gW 0 12 [] ?_
      refine gM ?_
      refine g1 r_nilCheck ?_
      refine gF 2 Try.underlying70 ti_67 ?_
      refine gE fun a5 => gL tU67 ?_
      refine gM ?_
      refine gM ?_
      refine gI2 tU22 ti_3 fun a6 => ?_
      refine gE fun a7 => gL tU3 ?_
      refine gM ?_
      refine gM ?_
      refine gI2 tU22 ti_3 fun a8 => ?_
      refine gE fun a9 => gL tU3 <| geT fun ba => ?_
      refine gO 12 <| gT0 ?_
      refine gC [] Try.func32 fun _ bf => gQ <| geO ?_
      refine gZ <| tn <| gS <| gR ?_
      refine gN <| ge <| tn <| gr <| br <| tr <| tr <| br <| br <| tr <| tr <| br <| br <| tr <| tr <| br <| tr ?_
      exact gz1
     ·refine gk <| bn <| tn <| gR <| gM ?_
      refine g2s r_addI ?_
      refine gN <| ge <| gT0 ?_
      exact k1 []
    ·refine gx <| te <| te <| bh <| bn <| tn <| gR <| gM ?_
     refine g2s r_addI ?_
     refine gN <| ge ?_
     exact k1 []
   ·refine gx <| te <| te <| bh <| bn <| tn <| gR <| gM ?_
    refine g2s r_addI ?_
    refine gN <| ge ?_
    exact k1 []
 ·refine gx <| te <| te <| bh <| tn <| gS <| gR <| gN <| ge <| tn <| gr ?_
  exact gz1
def ref21_Check.vc (y : Int) (z : Str) (aa : Str) (ab : Sl) (ad : Sl) (af : Int) (ag : Str) (ah : Str) (ai : Sl) (aj : Sl) (j : Sl) (R : Value → World → Prop) (w : World) : Prop :=
∀ (w7 : World) (aq : Nat) (ar : Nat), New w aq w7 → New w ar w7 → aq ≠ ar → Chg [] w w7 →
CallK Try.prog 28 #[.agg #[.int .i64 y, .string (Bs z), .string (Bs aa), Sl.v ab, Sl.v ad]] w7 [aq, ar] (fun v au => ∃ (al : Bool), v = .bool al ∧
∃ (av : Bool), (((al = true)) → Calls Try.prog 28 #[.agg #[.int .i64 af, .string (Bs ag), .string (Bs ah), Sl.v ai, Sl.v aj]] au (Ret fun v w' => Ext au w' ∧ v = .bool av)) ∧
(∀ ax : World, Ext au ax →
(((al = false) ∨ (av = false)) →
R (.bool false) ax) ∧
(((al = true) ∧ (av = true)) →
∀ (am : World), Chg [] ax am →
∃ r : Sl → World → Prop, (∀ f : Sl, ∀ w' w'' : World, Ext w' w'' → r f w' → r f w'') ∧
(∀ w' : World, Ext am w' → Calls Try.prog 11 #[.agg #[.int .i64 y, .string (Bs z), .string (Bs aa), Sl.v ab, Sl.v ad]] w' (Ret fun v w'' => Ext w' w'' ∧ ∃ f : Sl, v = Sl.v f ∧ r f w'')) ∧
∃ t : Sl → World → Prop, (∀ g : Sl, ∀ w' w'' : World, Ext w' w'' → t g w' → t g w'') ∧
(∀ w' : World, Ext am w' → Calls Try.prog 11 #[.agg #[.int .i64 af, .string (Bs ag), .string (Bs ah), Sl.v ai, Sl.v aj]] w' (Ret fun v w'' => Ext w' w'' ∧ ∃ g : Sl, v = Sl.v g ∧ t g w'')) ∧
∀ (an : World) (f : Sl) (g : Sl), Ext am an → r f an → t g an → 
∃ (az : Bool → Int → World → Prop) (aU : Bool → Int → World → Nat),
az false 0 an ∧
(∀ (m : Bool) (d : Int) (o : World), az m d o →
((d < (j.n : Int)) →
((0 : Int) ≤ d ∧ d < (j.n : Int)) ∧ ∃ aA : Addr, j.a = some aA ∧
∃ (b : Int) (c : Int), (Cells o (aA.add (d.toNat * 2)) [.int .i64 b, .int .i64 c]) ∧
∀ (l : World) (aB : Nat), New o aB l → Chg [] o l →
((((((¬ (b < 0)) ∧ (¬ ((f.n : Int) ≤ b))) ∧ (¬ (c < 0))) ∧ (¬ ((g.n : Int) ≤ c))) ∧ (0 < d)) → I64 (d - 1)) ∧
∃ aC : Addr, ((((((¬ (b < 0)) ∧ (¬ ((f.n : Int) ≤ b))) ∧ (¬ (c < 0))) ∧ (¬ ((g.n : Int) ≤ c))) ∧ (0 < d)) → ((0 : Int) ≤ d - 1 ∧ d - 1 < (j.n : Int)) ∧ j.a = some aC) ∧
∃ (k : Int), ((((((¬ (b < 0)) ∧ (¬ ((f.n : Int) ≤ b))) ∧ (¬ (c < 0))) ∧ (¬ ((g.n : Int) ≤ c))) ∧ (0 < d)) → l.cell? ((aC.add ((d - 1).toNat * 2)).add 0) = some (.int .i64 k)) ∧
∃ aD : Addr, (((((((¬ (b < 0)) ∧ (¬ ((f.n : Int) ≤ b))) ∧ (¬ (c < 0))) ∧ (¬ ((g.n : Int) ≤ c))) ∧ ((¬ (0 < d)) ∨ (¬ (b ≤ k))))) → ((0 : Int) ≤ b ∧ b < (f.n : Int)) ∧ f.a = some aD) ∧
∃ (aG : Int) (aH : Str) (aI : Str) (aJ : Sl) (aK : Sl), (((((((¬ (b < 0)) ∧ (¬ ((f.n : Int) ≤ b))) ∧ (¬ (c < 0))) ∧ (¬ ((g.n : Int) ≤ c))) ∧ ((¬ (0 < d)) ∨ (¬ (b ≤ k))))) → Cells l ((aD.add (b.toNat * 15)).add 5) [.int .i64 aG, .string (Bs aH), .string (Bs aI), Sl.v aJ, Sl.v aK]) ∧
∃ aL : Addr, (((((((¬ (b < 0)) ∧ (¬ ((f.n : Int) ≤ b))) ∧ (¬ (c < 0))) ∧ (¬ ((g.n : Int) ≤ c))) ∧ ((¬ (0 < d)) ∨ (¬ (b ≤ k))))) → ((0 : Int) ≤ c ∧ c < (g.n : Int)) ∧ g.a = some aL) ∧
∃ (aM : Int) (aN : Str) (aO : Str) (aP : Sl) (aQ : Sl), (((((((¬ (b < 0)) ∧ (¬ ((f.n : Int) ≤ b))) ∧ (¬ (c < 0))) ∧ (¬ ((g.n : Int) ≤ c))) ∧ ((¬ (0 < d)) ∨ (¬ (b ≤ k))))) → Cells l ((aL.add (c.toNat * 15)).add 5) [.int .i64 aM, .string (Bs aN), .string (Bs aO), Sl.v aP, Sl.v aQ]) ∧
∃ (ao : Bool), (((((((¬ (b < 0)) ∧ (¬ ((f.n : Int) ≤ b))) ∧ (¬ (c < 0))) ∧ (¬ ((g.n : Int) ≤ c))) ∧ ((¬ (0 < d)) ∨ (¬ (b ≤ k))))) → ∀ w' : World, Ext l w' → Calls Try.prog 58 #[.agg #[.int .i64 aG, .string (Bs aH), .string (Bs aI), Sl.v aJ, Sl.v aK], .agg #[.int .i64 aM, .string (Bs aN), .string (Bs aO), Sl.v aP, Sl.v aQ]] w' (Ret fun v w'' => Ext w' w'' ∧ v = .bool ao)) ∧
(((((((b < 0) ∨ ((f.n : Int) ≤ b)) ∨ (c < 0)) ∨ ((g.n : Int) ≤ c)) ∨ ((0 < d) ∧ (b ≤ k))) ∨ (ao = false)) →
∀ (u : World), Chg [] l u →
R (.bool false) u) ∧
(((((((¬ (b < 0)) ∧ (¬ ((f.n : Int) ≤ b))) ∧ (¬ (c < 0))) ∧ (¬ ((g.n : Int) ≤ c))) ∧ ((¬ (0 < d)) ∨ (¬ (b ≤ k)))) ∧ (ao = true)) →
∀ (u : World), Chg [] l u →
∃ (aR : Int → World → Prop) (aV : Int → World → Nat),
aR 0 u ∧
(∀ (i : Int) (x : World), aR i x →
((i < d) →
∀ (ap : World), Chg [] x ap →
∃ aS : Addr, (((0 : Int) ≤ i ∧ i < (j.n : Int)) ∧ j.a = some aS) ∧
∃ (ay : Int), (ap.cell? ((aS.add (i.toNat * 2)).add 1) = some (.int .i64 ay)) ∧
((ay = c) →
∀ (p : World), Chg [] ap p →
R (.bool false) p) ∧
((¬ (ay = c)) →
(I64 (i + 1)) ∧
∀ (p : World), Chg [] ap p →
aR (i + 1) p ∧ aV (i + 1) p < aV i x)) ∧
((¬ (i < d)) →
(I64 (d + 1)) ∧
az (m || (decide (b = 0 ∧ c = 0))) (d + 1) x ∧ aU (m || (decide (b = 0 ∧ c = 0))) (d + 1) x < aU m d o)))) ∧
((¬ (d < (j.n : Int))) →
R (.bool m) o)))))
theorem ref21_Check.ok (y : Int) (z : Str) (aa : Str) (ab : Sl) (ad : Sl) (af : Int) (ag : Str) (ah : Str) (ai : Sl) (aj : Sl) (j : Sl) {R : Value → World → Prop} {w : World} (aX : ref21_Check.vc y z aa ab ad af ag ah ai aj j R w) : Calls Try.prog 44 #[.agg #[.int .i64 y, .string (Bs z), .string (Bs aa), Sl.v ab, Sl.v ad], .agg #[.int .i64 af, .string (Bs ag), .string (Bs ah), Sl.v ai, Sl.v aj], Sl.v j] w (Ret R) := by
 refine go _ Try.func44 Try.ntmps44 aX ?_
 refine gS <| gR <| nb fun w5 aq => ?_
 refine nb fun w7 ar => ?_
 refine gN <| ge <| tn <| gS <| gS <| gR ?_
 refine gBN 1 5 Try.underlying26 ti_26 <| gT2 ?_
 refine gC [1, 0] Try.func28 fun _ au => gE fun al => gQ ?_
 refine g1 r_not ?_
 refine gM ?_
 refine GBN 0 5 Try.underlying26 ti_26 ?_
 refine gE fun av => GC Try.func28 (fun hg => (nF (g_f hg))) fun ax => ?_
 refine G1 r_not ?_
 refine gpo <| ge <| tn ?_
 refine gi (fun h => ((oT h).imp (fun h => (nT h)) (fun h => (nT h)))) (fun h => ⟨(nF (oF h).1), (nF (oF h).2)⟩) ?_ ?_
 ·refine gS <| gR <| gN <| ge <| tn <| gr <| tr ?_
  exact gz1
 ·refine gk <| tn <| gS <| gD fun am => gT0 <| gE fun r => gA fun aY => gA fun aZ => gE fun t => gA fun a0 => gA fun a1 => ?_
  refine gW 0 6 [(1, ⟨Sl, default, fun s => Sl.v s, fun s w => r s w, aY⟩), (3, ⟨Sl, default, fun s => Sl.v s, fun s w => t s w, a0⟩)] ?_
  refine gBN 1 5 Try.underlying26 ti_26 ?_
  refine yc rfl Try.func11 (fun w' hE _ => aZ w' hE) (fun _ _ h => h) fun f => ?_
  refine gBN 0 5 Try.underlying26 ti_26 ?_
  refine yc rfl Try.func11 (fun w' hE _ => a1 w' hE) (fun _ _ h => h) fun g => ?_
  refine gN ?_
  refine gN ?_
  refine eF (fun v w' hE hF => v w' f g hE hF.2.1 hF.1) fun an => ?_
  refine gZ <| tn <| gS <| gR ?_
  refine gN <| ge <| tn <| gS <| gS <| gR ?_
  refine gN <| ge <| tn <| gb <| gE fun _ => gE fun mu => ?_
  refine l2 mu (fun m d => [(9, .bool m), (10, .int .i64 d)]) [(2, _), (7, _), (8, _)] (fun _ _ => []) [] [] fun m d o _ => gS <| gS <| gR ?_
  refine gM ?_
  refine gM ?_
  refine g1 (fun q => r_len q tU29) ?_
  refine g2 r_lss <| ge <| tn ?_
  refine gi dT dF ?_ ?_
  ·refine gk <| tn <| gS <| gb <| gS <| gR <| gM ?_
   refine gM ?_
   refine gI1 tU29 ti_40 fun aA => ?_
   refine gE fun b => gE fun c => gLN Try.underlying40 ti_40 ?_
   refine na ti_40 fun bd aB => ?_
   refine wn 0 0 ti_40 fun bf => ge <| tn <| gS <| gS ?_
   refine gD fun l => gT1 <| gA fun a2 => gE fun aC => gA fun a3 => gE fun k => gA fun a4 => gE fun aD => gA fun a5 => gE fun aG => gE fun aH => gE fun aI => gE fun aJ => gE fun aK => gA fun a6 => gE fun aL => gA fun a7 => gE fun aM => gE fun aN => gE fun aO => gE fun aP => gE fun aQ => gA fun a8 => gE fun ao => gA fun a9 => ?_
   refine gW 0 53 [(50, rsG (true && ((((((decide (b < 0)) || (decide ((f.n : Int) ≤ b))) || (decide (c < 0))) || (decide ((g.n : Int) ≤ c))) || ((decide (0 < d)) && (decide (b ≤ k)))) == false)) () (fun _ => .bool ao) (fun _ _ => True) (fun _ _ _ _ _ => trivial))] ?_
   refine gF 0 Try.underlying40 ti_3 ?_
   refine gB 0 tU3 ?_
   refine g2 r_lss ?_
   refine gM ?_
   refine GF 0 Try.underlying40 ti_3 ?_
   refine GB 0 tU3 ?_
   refine G1 r_move ?_
   refine G1 (fun q => r_len q tU31) ?_
   refine G2 r_geq ?_
   refine gpo ?_
   refine gM ?_
   refine GF 1 Try.underlying40 ti_3 ?_
   refine GB 0 tU3 ?_
   refine G2 r_lss ?_
   refine gpo ?_
   refine gM ?_
   refine GF 1 Try.underlying40 ti_3 ?_
   refine GB 0 tU3 ?_
   refine G1 r_move ?_
   refine G1 (fun q => r_len q tU31) ?_
   refine G2 r_geq ?_
   refine gpo ?_
   refine gM ?_
   refine G1 r_move ?_
   refine G2 r_gtr ?_
   refine G1 r_move ?_
   refine GF 0 Try.underlying40 ti_3 ?_
   refine GB 0 tU3 ?_
   refine G1 r_move ?_
   refine G1 r_move ?_
   refine gP a2 <| G2s r_subI (fun hg => ⟨⟨⟨⟨(dF (oF (oF (oF (g_f (g_up hg))).1).1).1), (dF (oF (oF (oF (g_f (g_up hg))).1).1).2)⟩, (dF (oF (oF (g_f (g_up hg))).1).2)⟩, (dF (oF (g_f (g_up hg))).2)⟩, (dT (g_t hg))⟩) ?_
   refine GIx tU29 ti_40 (fun hg => a3 ⟨⟨⟨⟨(dF (oF (oF (oF (g_f (g_up hg))).1).1).1), (dF (oF (oF (oF (g_f (g_up hg))).1).1).2)⟩, (dF (oF (oF (g_f (g_up hg))).1).2)⟩, (dF (oF (g_f (g_up hg))).2)⟩, (dT (g_t hg))⟩) ?_
   refine GF 0 Try.underlying40 ti_3 ?_
   refine gP a4 <| GLd tU3 (fun hg => ⟨⟨⟨⟨(dF (oF (oF (oF (g_f (g_up hg))).1).1).1), (dF (oF (oF (oF (g_f (g_up hg))).1).1).2)⟩, (dF (oF (oF (g_f (g_up hg))).1).2)⟩, (dF (oF (g_f (g_up hg))).2)⟩, (dT (g_t hg))⟩) ?_
   refine G2 r_leq ?_
   refine Gpa ?_
   refine gpo ?_
   refine gM ?_
   refine G1 r_move ?_
   refine GF 0 Try.underlying40 ti_3 ?_
   refine GB 0 tU3 ?_
   refine GIx tU31 ti_38 (fun hg => a5 ⟨⟨⟨⟨(dF (oF (oF (oF (oF (g_f hg)).1).1).1).1), (dF (oF (oF (oF (oF (g_f hg)).1).1).1).2)⟩, (dF (oF (oF (oF (g_f hg)).1).1).2)⟩, (dF (oF (oF (g_f hg)).1).2)⟩, ((aF (oF (g_f hg)).2).imp (fun h => (dF h)) (fun h => (dF h)))⟩) ?_
   refine GF 5 Try.underlying38 ti_26 ?_
   refine gP a6 <| GLN Try.underlying26 ti_26 (fun hg => ⟨⟨⟨⟨(dF (oF (oF (oF (oF (g_f hg)).1).1).1).1), (dF (oF (oF (oF (oF (g_f hg)).1).1).1).2)⟩, (dF (oF (oF (oF (g_f hg)).1).1).2)⟩, (dF (oF (oF (g_f hg)).1).2)⟩, ((aF (oF (g_f hg)).2).imp (fun h => (dF h)) (fun h => (dF h)))⟩) ?_
   refine G1 r_move ?_
   refine GF 1 Try.underlying40 ti_3 ?_
   refine GB 0 tU3 ?_
   refine GIx tU31 ti_38 (fun hg => a7 ⟨⟨⟨⟨(dF (oF (oF (oF (oF (g_f hg)).1).1).1).1), (dF (oF (oF (oF (oF (g_f hg)).1).1).1).2)⟩, (dF (oF (oF (oF (g_f hg)).1).1).2)⟩, (dF (oF (oF (g_f hg)).1).2)⟩, ((aF (oF (g_f hg)).2).imp (fun h => (dF h)) (fun h => (dF h)))⟩) ?_
   refine GF 5 Try.underlying38 ti_26 ?_
   refine gP a8 <| GLN Try.underlying26 ti_26 (fun hg => ⟨⟨⟨⟨(dF (oF (oF (oF (oF (g_f hg)).1).1).1).1), (dF (oF (oF (oF (oF (g_f hg)).1).1).1).2)⟩, (dF (oF (oF (oF (g_f hg)).1).1).2)⟩, (dF (oF (oF (g_f hg)).1).2)⟩, ((aF (oF (g_f hg)).2).imp (fun h => (dF h)) (fun h => (dF h)))⟩) ?_
   refine YC rfl Try.func58 (fun hg w' hE _ => a9 ⟨⟨⟨⟨(dF (oF (oF (oF (oF (g_f hg)).1).1).1).1), (dF (oF (oF (oF (oF (g_f hg)).1).1).1).2)⟩, (dF (oF (oF (oF (g_f hg)).1).1).2)⟩, (dF (oF (oF (g_f hg)).1).2)⟩, ((aF (oF (g_f hg)).2).imp (fun h => (dF h)) (fun h => (dF h)))⟩ w' hE) (fun _ _ h => ⟨(), h, trivial⟩) fun _ => ?_
   refine G1 r_not ?_
   refine gpo ?_
   refine eT fun u => ?_
   refine gZ <| tn ?_
   refine gi (fun h => ((oT h).imp (fun h => ((oT h).imp (fun h => ((oT h).imp (fun h => ((oT h).imp (fun h => ((oT h).imp (fun h => (dT h)) (fun h => (dT h)))) (fun h => (dT h)))) (fun h => (dT h)))) (fun h => ⟨(dT (aT h).1), (dT (aT h).2)⟩))) (fun h => (nT h)))) (fun h => ⟨⟨⟨⟨⟨(dF (oF (oF (oF (oF (oF h).1).1).1).1).1), (dF (oF (oF (oF (oF (oF h).1).1).1).1).2)⟩, (dF (oF (oF (oF (oF h).1).1).1).2)⟩, (dF (oF (oF (oF h).1).1).2)⟩, ((aF (oF (oF h).1).2).imp (fun h => (dF h)) (fun h => (dF h)))⟩, (nF (oF h).2)⟩) ?_ ?_
   ·refine gS <| gR <| gN <| ge <| tn <| gr <| tr <| br <| tr <| tr <| br <| tr <| gT0 ?_
    exact gz1
   ·refine gk <| tn <| gS <| gS <| gR <| gN <| ge <| tn <| gb <| gT0 <| gE fun _ => gE fun mu => ?_
    refine l1 mu (fun i => [(12, .int .i64 i)]) [(2, _), (7, _), (8, _), (9, _), (10, _), (11, _)] (fun _ => []) [(aB, _, _)] [0] fun i x _ => gS <| gS <| gR ?_
    refine gM ?_
    refine gM ?_
    refine g2 r_lss <| ge <| tn ?_
    refine gi dT dF ?_ ?_
    ·refine gk <| tn <| gS <| gb <| gS <| gD fun ap => gT0 ?_
     refine gW 0 8 [] ?_
     refine gM ?_
     refine gM ?_
     refine gI2 tU29 ti_40 fun aS => ?_
     refine gF 1 Try.underlying40 ti_3 ?_
     refine gE fun ay => gL tU3 ?_
     refine gF 1 Try.underlying40 ti_3 ?_
     refine gB 0 tU3 ?_
     refine g2 r_eql <| geT fun p => ?_
     refine gZ <| tn ?_
     refine gi dT dF ?_ ?_
     ·refine gS <| gR <| gN <| ge <| tn <| gr <| br <| tr <| tr <| br <| tr <| br <| tr <| tr <| br <| tr <| gT0 ?_
      exact gz1
     ·refine gk <| bn <| tn <| gR <| gM ?_
      refine g2s r_addI ?_
      refine gN <| ge <| gT0 ?_
      exact k1 [0]
    ·refine gx <| te <| te <| bh <| tn <| gR <| gM ?_
     refine gM ?_
     refine GBN 0 2 Try.underlying40 ti_40 ?_
     refine Gbu ti_40 Try.underlying40 pl_40 ?_
     refine G2 (fun q ba => r_aeql q ba (eq_40 _ _ _ _)) ?_
     refine gpo ?_
     refine gN <| ge <| bn <| tn <| gR ?_
     refine gM ?_
     refine g2s r_addI ?_
     refine gN <| ge ?_
     exact k2 []
  ·refine gx <| te <| te <| bh <| tn <| gS <| gR <| gM ?_
   refine gN <| ge <| tn <| gr ?_
   exact gz1
def ref21_W_best.vc (i : Addr) (f : Int) (R : Value → World → Prop) (w : World) : Prop :=
∃ (x : Int → Int → Int → World → Prop) (y : Int → Int → Int → World → Nat),
x (-1) 0 0 w ∧
(∀ (b : Int) (g : Int) (d : Int) (o : World), x b g d o →
∃ (z : Sl), (o.cell? (i.add 1) = some (Sl.v z)) ∧
((d < (z.n : Int)) →
∀ (j : World), Chg [] o j →
∃ (ak : Option Addr), (j.cell? (i.add 2) = some (.pointer ak)) ∧
∃ al : Addr, (ak = some al) ∧
∃ (aa : Sl), (j.cell? (al.add 1) = some (Sl.v aa)) ∧
∃ am : Addr, (((0 : Int) ≤ d ∧ d < (aa.n : Int)) ∧ aa.a = some am) ∧
∃ (k : Int), (j.cell? (am.add (d.toNat * 1)) = some (.int .i64 k)) ∧
∃ (ab : Sl), (((¬ (0 ≤ k))) → j.cell? (i.add 0) = some (Sl.v ab)) ∧
∃ an : Addr, (((¬ (0 ≤ k))) → ((0 : Int) ≤ f ∧ f < (ab.n : Int)) ∧ ab.a = some an) ∧
∃ (ao : Int) (ap : Str) (aq : Str) (ar : Sl) (au : Sl), (((¬ (0 ≤ k))) → Cells j ((an.add (f.toNat * 15)).add 5) [.int .i64 ao, .string (Bs ap), .string (Bs aq), Sl.v ar, Sl.v au]) ∧
∃ (ad : Sl), (((¬ (0 ≤ k))) → j.cell? (i.add 1) = some (Sl.v ad)) ∧
∃ av : Addr, (((¬ (0 ≤ k))) → ((0 : Int) ≤ d ∧ d < (ad.n : Int)) ∧ ad.a = some av) ∧
∃ (ax : Int) (ay : Str) (az : Str) (aA : Sl) (aB : Sl), (((¬ (0 ≤ k))) → Cells j ((av.add (d.toNat * 15)).add 5) [.int .i64 ax, .string (Bs ay), .string (Bs az), Sl.v aA, Sl.v aB]) ∧
∃ (q : Bool), (((¬ (0 ≤ k))) → ∀ w' : World, Ext j w' → Calls Try.prog 58 #[.agg #[.int .i64 ao, .string (Bs ap), .string (Bs aq), Sl.v ar, Sl.v au], .agg #[.int .i64 ax, .string (Bs ay), .string (Bs az), Sl.v aA, Sl.v aB]] w' (Ret fun v w'' => Ext w' w'' ∧ v = .bool q)) ∧
(((0 ≤ k) ∨ (q = false)) →
(I64 (d + 1)) ∧
∀ (p : World), Chg [] j p →
x b g (d + 1) p ∧ y b g (d + 1) p < y b g d o) ∧
(((¬ (0 ≤ k)) ∧ (q = true)) →
∀ (p : World), Chg [] j p →
CallK Try.prog 73 #[.pointer (some i), .int .i64 f, .int .i64 d] p [] (fun v aI => ∃ (c : Int), v = .int .i64 c ∧
∀ (l : World), Chg [] aI l →
∃ (af : Sl), (((0 < c) ∧ (¬ (b < 0))) → l.cell? (i.add 0) = some (Sl.v af)) ∧
∃ aC : Addr, (((0 < c) ∧ (¬ (b < 0))) → ((0 : Int) ≤ f ∧ f < (af.n : Int)) ∧ af.a = some aC) ∧
∃ (r : Int), (((0 < c) ∧ (¬ (b < 0))) → l.cell? ((aC.add (f.toNat * 15)).add 1) = some (.int .i64 r)) ∧
∃ (ag : Sl), (((0 < c) ∧ (¬ (b < 0))) → l.cell? (i.add 1) = some (Sl.v ag)) ∧
∃ aD : Addr, (((0 < c) ∧ (¬ (b < 0))) → ((0 : Int) ≤ d ∧ d < (ag.n : Int)) ∧ ag.a = some aD) ∧
∃ (s : Int), (((0 < c) ∧ (¬ (b < 0))) → l.cell? ((aD.add (d.toNat * 15)).add 1) = some (.int .i64 s)) ∧
(((0 < c) ∧ (¬ (b < 0))) → I64 (r + s)) ∧
(((0 < c) ∧ (¬ (b < 0))) → I64 ((r + s) - 2)) ∧
∃ (ah : Sl), (((0 < c) ∧ (¬ (b < 0))) → l.cell? (i.add 0) = some (Sl.v ah)) ∧
∃ aG : Addr, (((0 < c) ∧ (¬ (b < 0))) → ((0 : Int) ≤ f ∧ f < (ah.n : Int)) ∧ ah.a = some aG) ∧
∃ (t : Int), (((0 < c) ∧ (¬ (b < 0))) → l.cell? ((aG.add (f.toNat * 15)).add 1) = some (.int .i64 t)) ∧
∃ (ai : Sl), (((0 < c) ∧ (¬ (b < 0))) → l.cell? (i.add 1) = some (Sl.v ai)) ∧
∃ aH : Addr, (((0 < c) ∧ (¬ (b < 0))) → ((0 : Int) ≤ b ∧ b < (ai.n : Int)) ∧ ai.a = some aH) ∧
∃ (u : Int), (((0 < c) ∧ (¬ (b < 0))) → l.cell? ((aH.add (b.toNat * 15)).add 1) = some (.int .i64 u)) ∧
(((0 < c) ∧ (¬ (b < 0))) → I64 (t + u)) ∧
(((0 < c) ∧ (¬ (b < 0))) → I64 ((t + u) - 2)) ∧
∃ (m : Int), (((0 < c) ∧ (¬ (b < 0))) → ∀ w' : World, Ext l w' → Calls Try.prog 74 #[.int .i64 c, .int .i64 ((r + s) - 2), .int .i64 g, .int .i64 ((t + u) - 2)] w' (Ret fun v w'' => Ext w' w'' ∧ v = .int .i64 m)) ∧
(I64 (d + 1)) ∧
∀ (aj : World), Chg [] l aj →
x (bif ((decide (0 < c)) && ((decide (b < 0)) || (decide (0 < m)))) then d else b) (bif ((decide (0 < c)) && ((decide (b < 0)) || (decide (0 < m)))) then c else g) (d + 1) aj ∧ y (bif ((decide (0 < c)) && ((decide (b < 0)) || (decide (0 < m)))) then d else b) (bif ((decide (0 < c)) && ((decide (b < 0)) || (decide (0 < m)))) then c else g) (d + 1) aj < y b g d o))) ∧
((¬ (d < (z.n : Int))) →
R (.tuple #[.int .i64 b, .int .i64 g]) o))
theorem ref21_W_best.ok (i : Addr) (f : Int) {R : Value → World → Prop} {w : World} (aJ : ref21_W_best.vc i f R w) : Calls Try.prog 55 #[.pointer (some i), .int .i64 f] w (Ret R) := by
 refine go _ Try.func55 Try.ntmps55 aJ ?_
 refine gS <| gR <| gN ?_
 refine gN <| ge <| tn <| gS <| gR ?_
 refine gN ?_
 refine gN <| ge <| tn <| gS <| gS <| gR ?_
 refine gN <| ge <| tn <| gb <| gE fun _ => gE fun mu => ?_
 refine l3 mu (fun b g d => [(6, .int .i64 b), (7, .int .i64 g), (8, .int .i64 d)]) [(0, _), (1, _)] (fun _ _ _ => []) [] [] fun b g d o _ => gS <| gS <| gR ?_
 refine gM ?_
 refine gM ?_
 refine g1 r_nilCheck ?_
 refine gF 1 Try.underlying70 ti_31 ?_
 refine gE fun z => gL tU31 ?_
 refine g1 (fun aK => r_len aK tU31) ?_
 refine g2 r_lss <| ge <| tn ?_
 refine gi dT dF ?_ ?_
 ·refine gk <| tn <| gS <| gb <| gS <| gS <| gD fun j => gT0 <| gE fun ak => gA fun aL => gE fun al => gA fun aM => gE fun aa => gA fun aN => gE fun am => gA fun aO => gE fun k => gA fun aP => gE fun ab => gA fun aQ => gE fun an => gA fun aR => gE fun ao => gE fun ap => gE fun aq => gE fun ar => gE fun au => gA fun aS => gE fun ad => gA fun aU => gE fun av => gA fun aV => gE fun ax => gE fun ay => gE fun az => gE fun aA => gE fun aB => gA fun aX => gE fun q => gA fun aY => ?_
  refine gW 0 31 [(28, rsG (true && ((decide (0 ≤ k)) == false)) () (fun _ => .bool q) (fun _ _ => True) (fun _ _ _ _ _ => trivial))] ?_
  refine gM ?_
  refine g1 r_nilCheck ?_
  refine gF 2 Try.underlying70 ti_67 ?_
  refine gP aL <| gL tU67 ?_
  refine gnx aM ?_
  refine gF 1 Try.underlying74 ti_22 ?_
  refine gP aN <| gL tU22 ?_
  refine gM ?_
  refine gIx tU22 ti_3 aO ?_
  refine gP aP <| gL tU3 ?_
  refine g2 r_geq ?_
  refine gM ?_
  refine G1 r_move ?_
  refine G1 r_nilCheck ?_
  refine GF 0 Try.underlying70 ti_31 ?_
  refine gP aQ <| GLd tU31 (fun hg => (dF (g_f hg))) ?_
  refine G1 r_move ?_
  refine GIx tU31 ti_38 (fun hg => aR (dF (g_f hg))) ?_
  refine GF 5 Try.underlying38 ti_26 ?_
  refine gP aS <| GLN Try.underlying26 ti_26 (fun hg => (dF (g_f hg))) ?_
  refine G1 r_move ?_
  refine G1 r_nilCheck ?_
  refine GF 1 Try.underlying70 ti_31 ?_
  refine gP aU <| GLd tU31 (fun hg => (dF (g_f hg))) ?_
  refine G1 r_move ?_
  refine GIx tU31 ti_38 (fun hg => aV (dF (g_f hg))) ?_
  refine GF 5 Try.underlying38 ti_26 ?_
  refine gP aX <| GLN Try.underlying26 ti_26 (fun hg => (dF (g_f hg))) ?_
  refine YC rfl Try.func58 (fun hg w' hE _ => aY (dF (g_f hg)) w' hE) (fun _ _ h => ⟨(), h, trivial⟩) fun _ => ?_
  refine G1 r_not ?_
  refine gpo ?_
  refine eT fun p => ?_
  refine gZ <| tn ?_
  refine gi (fun h => ((oT h).imp (fun h => (dT h)) (fun h => (nT h)))) (fun h => ⟨(dF (oF h).1), (nF (oF h).2)⟩) ?_ ?_
  ·refine gx <| te <| bh <| tn <| gR <| gM ?_
   refine g2s r_addI ?_
   refine gN <| ge <| gT0 ?_
   exact k3 []
  ·refine gk <| tn <| gS <| gR <| gM ?_
   refine gM ?_
   refine gM <| gT0 ?_
   refine gC [] Try.func73 fun _ aI => gE fun c => gQ ?_
   refine gN <| ge <| tn <| gS ?_
   refine gD fun l => gT0 <| gE fun af => gA fun aZ => gE fun aC => gA fun a0 => gE fun r => gA fun a1 => gE fun ag => gA fun a2 => gE fun aD => gA fun a3 => gE fun s => gA fun a4 => gA fun a5 => gA fun a6 => gE fun ah => gA fun a7 => gE fun aG => gA fun a8 => gE fun t => gA fun a9 => gE fun ai => gA fun ba => gE fun aH => gA fun bb => gE fun u => gA fun bd => gA fun bf => gA fun bg => gE fun m => gA fun bi => ?_
   refine gW 0 48 [(44, rsG ((true && ((decide (0 < c)) == true)) && ((decide (b < 0)) == false)) () (fun _ => .int .i64 m) (fun _ _ => True) (fun _ _ _ _ _ => trivial))] ?_
   refine gM ?_
   refine g2 r_gtr ?_
   refine gM ?_
   refine G1 r_move ?_
   refine G2 r_lss ?_
   refine G1 r_move ?_
   refine G1 r_move ?_
   refine G1 r_move ?_
   refine G1 r_nilCheck ?_
   refine GF 0 Try.underlying70 ti_31 ?_
   refine gP aZ <| GLd tU31 (fun hg => ⟨(dT (g_t (g_up hg))), (dF (g_f hg))⟩) ?_
   refine G1 r_move ?_
   refine GIx tU31 ti_38 (fun hg => a0 ⟨(dT (g_t (g_up hg))), (dF (g_f hg))⟩) ?_
   refine GF 1 Try.underlying38 ti_3 ?_
   refine gP a1 <| GLd tU3 (fun hg => ⟨(dT (g_t (g_up hg))), (dF (g_f hg))⟩) ?_
   refine G1 r_move ?_
   refine G1 r_nilCheck ?_
   refine GF 1 Try.underlying70 ti_31 ?_
   refine gP a2 <| GLd tU31 (fun hg => ⟨(dT (g_t (g_up hg))), (dF (g_f hg))⟩) ?_
   refine G1 r_move ?_
   refine GIx tU31 ti_38 (fun hg => a3 ⟨(dT (g_t (g_up hg))), (dF (g_f hg))⟩) ?_
   refine GF 1 Try.underlying38 ti_3 ?_
   refine gP a4 <| GLd tU3 (fun hg => ⟨(dT (g_t (g_up hg))), (dF (g_f hg))⟩) ?_
   refine gP a5 <| G2s r_addI (fun hg => ⟨(dT (g_t (g_up hg))), (dF (g_f hg))⟩) ?_
   refine gP a6 <| G2s r_subI (fun hg => ⟨(dT (g_t (g_up hg))), (dF (g_f hg))⟩) ?_
   refine G1 r_move ?_
   refine G1 r_move ?_
   refine G1 r_nilCheck ?_
   refine GF 0 Try.underlying70 ti_31 ?_
   refine gP a7 <| GLd tU31 (fun hg => ⟨(dT (g_t (g_up hg))), (dF (g_f hg))⟩) ?_
   refine G1 r_move ?_
   refine GIx tU31 ti_38 (fun hg => a8 ⟨(dT (g_t (g_up hg))), (dF (g_f hg))⟩) ?_
   refine GF 1 Try.underlying38 ti_3 ?_
   refine gP a9 <| GLd tU3 (fun hg => ⟨(dT (g_t (g_up hg))), (dF (g_f hg))⟩) ?_
   refine G1 r_move ?_
   refine G1 r_nilCheck ?_
   refine GF 1 Try.underlying70 ti_31 ?_
   refine gP ba <| GLd tU31 (fun hg => ⟨(dT (g_t (g_up hg))), (dF (g_f hg))⟩) ?_
   refine G1 r_move ?_
   refine GIx tU31 ti_38 (fun hg => bb ⟨(dT (g_t (g_up hg))), (dF (g_f hg))⟩) ?_
   refine GF 1 Try.underlying38 ti_3 ?_
   refine gP bd <| GLd tU3 (fun hg => ⟨(dT (g_t (g_up hg))), (dF (g_f hg))⟩) ?_
   refine gP bf <| G2s r_addI (fun hg => ⟨(dT (g_t (g_up hg))), (dF (g_f hg))⟩) ?_
   refine gP bg <| G2s r_subI (fun hg => ⟨(dT (g_t (g_up hg))), (dF (g_f hg))⟩) ?_
   refine YC rfl Try.func74 (fun hg w' hE _ => bi ⟨(dT (g_t (g_up hg))), (dF (g_f hg))⟩ w' hE) (fun _ _ h => ⟨(), h, trivial⟩) fun _ => ?_
   refine G2 r_gtr ?_
   refine Gpo ?_
   refine gpa ?_
   refine eT fun aj => ?_
   refine gZ <| tn ?_
   refine gp [(6, .int .i64 (bif ((decide (0 < c)) && ((decide (b < 0)) || (decide (0 < m)))) then d else b)), (7, .int .i64 (bif ((decide (0 < c)) && ((decide (b < 0)) || (decide (0 < m)))) then c else g))] [(0, _), (1, _), (8, _)] (fun hc => ?_) (fun hc => ?_) ?_
   ·refine gR <| gM ?_
    refine gM ?_
    refine gN ?_
    refine gN <| ge ?_
    exact gp' ⟨by rw [hc]; rfl, by rw [hc]; rfl, trivial⟩
   ·exact gk <| gp' ⟨by rw [hc]; rfl, by rw [hc]; rfl, trivial⟩
   ·refine bn <| tn <| gR <| gM ?_
    refine g2s r_addI ?_
    refine gN <| ge <| gT0 ?_
    exact k3 []
 ·refine gx <| te <| te <| bh <| tn <| gS <| gR <| gM ?_
  refine gM ?_
  refine gN ?_
  refine gN <| ge <| tn <| gr ?_
  exact gz2
def ref21_kin.vc (b : Int) (c : Str) (g : Str) (h : Sl) (i : Sl) (d : Int) (f : Str) (j : Str) (k : Sl) (l : Sl) (R : Value → World → Prop) (w : World) : Prop :=
∀ (a : World) (m : Nat) (n : Nat), New w m a → New w n a → m ≠ n → Chg [] w a →
R (.bool ((decide (b = d)) && (decide (c = f)))) a
theorem ref21_kin.ok (b : Int) (c : Str) (g : Str) (h : Sl) (i : Sl) (d : Int) (f : Str) (j : Str) (k : Sl) (l : Sl) {R : Value → World → Prop} {w : World} (o : ref21_kin.vc b c g h i d f j k l R w) : Calls Try.prog 58 #[.agg #[.int .i64 b, .string (Bs c), .string (Bs g), Sl.v h, Sl.v i], .agg #[.int .i64 d, .string (Bs f), .string (Bs j), Sl.v k, Sl.v l]] w (Ret R) := by
 refine go _ Try.func58 Try.ntmps58 o ?_
 refine gS <| gR <| nb fun p m => ?_
 refine nb fun a n => ?_
 refine gN <| ge <| tn <| gS <| gR ?_
 refine gF 0 Try.underlying26 ti_3 ?_
 refine gB 1 tU3 ?_
 refine gF 0 Try.underlying26 ti_3 ?_
 refine gB 0 tU3 ?_
 refine g2 r_eql ?_
 refine gM ?_
 refine GF 1 Try.underlying26 ti_9 ?_
 refine GB 1 tU9 ?_
 refine GF 1 Try.underlying26 ti_9 ?_
 refine GB 0 tU9 ?_
 refine G2 r_seql ?_
 refine gpa ?_
 refine gN <| ge <| tn <| gr <| gT2 ?_
 exact gz1
def ref21_W_common.vc (j : Addr) (g : Int) (d : Int) (R : Value → World → Prop) (w : World) : Prop :=
(I64 (g + 1)) ∧
∃ (m : Int → Int → World → Prop) (o : Int → Int → World → Nat),
m 0 (g + 1) w ∧
(∀ (f : Int) (b : Int) (c : World), m f b c →
∃ (p : Sl), (c.cell? (j.add 0) = some (Sl.v p)) ∧
((0 : Int) ≤ g ∧ g < (p.n : Int)) ∧ ∃ s : Addr, p.a = some s ∧
∃ (k : Int), (c.cell? ((s.add (g.toNat * 15)).add 1) = some (.int .i64 k)) ∧
(I64 (g + k)) ∧
((b < (g + k)) →
∃ (t : Option Addr), (c.cell? (j.add 2) = some (.pointer t)) ∧
∃ u : Addr, (t = some u) ∧
∃ (q : Sl), (c.cell? (u.add 0) = some (Sl.v q)) ∧
((0 : Int) ≤ b ∧ b < (q.n : Int)) ∧ ∃ x : Addr, q.a = some x ∧
∃ (i : Int), (c.cell? (x.add (b.toNat * 1)) = some (.int .i64 i)) ∧
∃ (r : Sl), (((d < i)) → c.cell? (j.add 1) = some (Sl.v r)) ∧
∃ y : Addr, (((d < i)) → ((0 : Int) ≤ d ∧ d < (r.n : Int)) ∧  r.a = some y) ∧
∃ (l : Int), (((d < i)) → c.cell? ((y.add (d.toNat * 15)).add 1) = some (.int .i64 l)) ∧
(((d < i)) → I64 (d + l)) ∧
(((d < i) ∧ (i < (d + l))) →
(I64 (f + 1)) ∧
(I64 (b + 1)) ∧
m (f + 1) (b + 1) c ∧ o (f + 1) (b + 1) c < o f b c) ∧
(((¬ (d < i)) ∨ (¬ (i < (d + l)))) →
(I64 (b + 1)) ∧
m f (b + 1) c ∧ o f (b + 1) c < o f b c)) ∧
((¬ (b < (g + k))) →
R (.int .i64 f) c))
theorem ref21_W_common.ok (j : Addr) (g : Int) (d : Int) {R : Value → World → Prop} {w : World} (z : ref21_W_common.vc j g d R w) : Calls Try.prog 73 #[.pointer (some j), .int .i64 g, .int .i64 d] w (Ret R) := by
 refine go _ Try.func73 Try.ntmps73 z ?_
 refine gS <| gR <| gN <| ge <| tn <| gS <| gR ?_
 refine gN <| ge <| tn <| gS <| gS <| gR ?_
 refine gM ?_
 refine g2s r_addI ?_
 refine gN <| ge <| tn <| gb <| gE fun _ => gE fun mu => ?_
 refine l2 mu (fun f b => [(7, .int .i64 f), (8, .int .i64 b)]) [(0, _), (1, _), (2, _)] (fun _ _ => []) [] [] fun f b c _ => gS <| gS <| gR ?_
 refine gM ?_
 refine gM ?_
 refine gM ?_
 refine g1 r_nilCheck ?_
 refine gF 0 Try.underlying70 ti_31 ?_
 refine gE fun p => gL tU31 ?_
 refine gM ?_
 refine gI1 tU31 ti_38 fun s => ?_
 refine gF 1 Try.underlying38 ti_3 ?_
 refine gE fun k => gL tU3 ?_
 refine g2s r_addI ?_
 refine g2 r_lss <| ge <| tn ?_
 refine gi dT dF ?_ ?_
 ·refine gk <| tn <| gS <| gb <| gS <| gR <| gM ?_
  refine g1 r_nilCheck ?_
  refine gF 2 Try.underlying70 ti_67 ?_
  refine gE fun t => gL tU67 ?_
  refine gnP fun u => ?_
  refine gF 0 Try.underlying74 ti_22 ?_
  refine gE fun q => gL tU22 ?_
  refine gM ?_
  refine gI1 tU22 ti_3 fun x => ?_
  refine gE fun i => gL tU3 ?_
  refine gN <| ge <| tn <| gS <| gR ?_
  refine gM ?_
  refine gM ?_
  refine g2 r_gtr ?_
  refine gM ?_
  refine G1 r_move ?_
  refine G1 r_move ?_
  refine G1 r_move ?_
  refine G1 r_nilCheck ?_
  refine GF 1 Try.underlying70 ti_31 ?_
  refine gE fun r => GLd tU31 (fun hg => (dT (g_t hg))) ?_
  refine G1 r_move ?_
  refine GI2 tU31 ti_38 (fun hg => (dT (g_t hg))) fun y => ?_
  refine GF 1 Try.underlying38 ti_3 ?_
  refine gE fun l => GLd tU3 (fun hg => (dT (g_t hg))) ?_
  refine G2s r_addI (fun hg => (dT (g_t hg))) ?_
  refine G2 r_lss ?_
  refine gpa <| ge <| tn ?_
  refine gi (fun h => ⟨(dT (aT h).1), (dT (aT h).2)⟩) (fun h => ((aF h).imp (fun h => (dF h)) (fun h => (dF h)))) ?_ ?_
  ·refine gR <| gM ?_
   refine g2s r_addI ?_
   refine gN <| ge <| bn <| tn <| gR ?_
   refine gM ?_
   refine g2s r_addI ?_
   refine gN <| ge ?_
   exact k2 []
  ·refine gk <| bn <| tn <| gR <| gM ?_
   refine g2s r_addI ?_
   refine gN <| ge ?_
   exact k2 []
 ·refine gx <| te <| te <| bh <| tn <| gS <| gR <| gM ?_
  refine gN <| ge <| tn <| gr ?_
  exact gz1
end Go.Proofs.Yteohbfaechfliaa
