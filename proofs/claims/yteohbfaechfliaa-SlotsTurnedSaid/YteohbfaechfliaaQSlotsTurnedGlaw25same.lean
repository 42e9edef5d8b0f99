/-
  PRINTED BY PROGRAM: for each function its condition (vc), and that this suffices (ok).
-/
import Derived.Test.YteohbfaechfliaaQSlotsTurnedGT
namespace Go.Proofs.Yteohbfaechfliaa
open Go.RowKit
set_option linter.unusedVariables false
set_option maxHeartbeats 1000000
set_option maxRecDepth 10000
def law25_same.vc (g : Bool) (i : Bool) (u : Sl) (c : Sl) (o : Int) (x : Sl) (j : Bool) (k : Bool) (y : Sl) (f : Sl) (p : Int) (z : Sl) (R : Value → World → Prop) (w : World) : Prop :=
∀ (l : World) (aa : Nat) (ab : Nat), New w aa l → New w ab l → aa ≠ ab → Chg [] w l →
∃ (r : Bool), (((((g == j) = true) ∧ ((i == k) = true))) → Calls Try.prog 69 #[Sl.v u, Sl.v y] l (Ret fun v w' => Ext l w' ∧ v = .bool r)) ∧
(∀ s : World, Ext l s →
∃ (ad : Bool), ((((((((g == j) = true) ∧ ((i == k) = true)) ∧ (r = true)) ∧ (¬ ((c.n : Int) ≠ (f.n : Int)))) ∧ (¬ (o ≠ p)))) → Calls Try.prog 23 #[Sl.v x, Sl.v z] s (Ret fun v w' => Ext s w' ∧ v = .bool ad)) ∧
(∀ af : World, Ext s af →
((((((((g == j) = false) ∨ ((i == k) = false)) ∨ (r = false)) ∨ ((c.n : Int) ≠ (f.n : Int))) ∨ (o ≠ p)) ∨ (ad = false)) →
R (.bool false) af) ∧
((((((((g == j) = true) ∧ ((i == k) = true)) ∧ (r = true)) ∧ (¬ ((c.n : Int) ≠ (f.n : Int)))) ∧ (¬ (o ≠ p))) ∧ (ad = true)) →
∃ (ai : Int → World → Prop) (am : Int → World → Nat),
ai 0 af ∧
(∀ (b : Int) (t : World), ai b t →
((b < (c.n : Int)) →
∀ (q : World), Chg [] t q →
∃ aj : Addr, (((0 : Int) ≤ b ∧ b < (c.n : Int)) ∧ c.a = some aj) ∧
∃ (ag : Str), (q.cell? (aj.add (b.toNat * 1)) = some (.string (Bs ag))) ∧
∃ ak : Addr, (((0 : Int) ≤ b ∧ b < (f.n : Int)) ∧ f.a = some ak) ∧
∃ (ah : Str), (q.cell? (ak.add (b.toNat * 1)) = some (.string (Bs ah))) ∧
((ag ≠ ah) →
∀ (m : World), Chg [] q m →
R (.bool false) m) ∧
((¬ (ag ≠ ah)) →
(I64 (b + 1)) ∧
∀ (m : World), Chg [] q m →
ai (b + 1) m ∧ am (b + 1) m < am b t)) ∧
((¬ (b < (c.n : Int))) →
R (.bool true) t)))))
theorem law25_same.ok (g : Bool) (i : Bool) (u : Sl) (c : Sl) (o : Int) (x : Sl) (j : Bool) (k : Bool) (y : Sl) (f : Sl) (p : Int) (z : Sl) {R : Value → World → Prop} {w : World} (an : law25_same.vc g i u c o x j k y f p z R w) : Calls Try.prog 47 #[.agg #[.bool g, .bool i, Sl.v u, Sl.v c, .int .i64 o, Sl.v x], .agg #[.bool j, .bool k, Sl.v y, Sl.v f, .int .i64 p, Sl.v z]] w (Ret R) := by
 refine go _ Try.func47 Try.ntmps47 an ?_
 refine gS <| gR <| nb fun w4 aa => ?_
 refine nb fun l ab => ?_
 refine gN <| ge <| tn <| gS <| gS <| gR ?_
 refine gF 0 Try.underlying43 ti_4 ?_
 refine gB 1 tU4 ?_
 refine gF 0 Try.underlying93 ti_4 ?_
 refine gB 0 tU4 ?_
 refine g2 (fun d al => r_bneq d al tU4) ?_
 refine gM ?_
 refine GF 1 Try.underlying43 ti_4 ?_
 refine GB 1 tU4 ?_
 refine GF 1 Try.underlying93 ti_4 ?_
 refine GB 0 tU4 ?_
 refine G2 (fun d al => r_bneq d al tU4) ?_
 refine gpo ?_
 refine gM ?_
 refine GF 2 Try.underlying43 ti_23 ?_
 refine GB 1 tU23 ?_
 refine GF 2 Try.underlying93 ti_23 ?_
 refine GB 0 tU23 <| gT2 ?_
 refine gE fun r => GC Try.func69 (fun hg => ⟨(nF (oF (g_f hg)).1), (nF (oF (g_f hg)).2)⟩) fun s => ?_
 refine G1 r_not ?_
 refine gpo ?_
 refine gM ?_
 refine GF 3 Try.underlying43 ti_41 ?_
 refine GB 1 tU41 ?_
 refine G1 (fun d => r_len d tU41) ?_
 refine GF 3 Try.underlying93 ti_41 ?_
 refine GB 0 tU41 ?_
 refine G1 (fun d => r_len d tU41) ?_
 refine G2 r_neq ?_
 refine gpo ?_
 refine gM ?_
 refine GF 4 Try.underlying43 ti_3 ?_
 refine GB 1 tU3 ?_
 refine GF 4 Try.underlying93 ti_3 ?_
 refine GB 0 tU3 ?_
 refine G2 r_neq ?_
 refine gpo ?_
 refine gM ?_
 refine GF 5 Try.underlying43 ti_22 ?_
 refine GB 1 tU22 ?_
 refine GF 5 Try.underlying93 ti_22 ?_
 refine GB 0 tU22 ?_
 refine gE fun ad => GC Try.func23 (fun hg => ⟨⟨⟨⟨(nF (oF (oF (oF (oF (g_f hg)).1).1).1).1), (nF (oF (oF (oF (oF (g_f hg)).1).1).1).2)⟩, (nF (oF (oF (oF (g_f hg)).1).1).2)⟩, (dF (oF (oF (g_f hg)).1).2)⟩, (dF (oF (g_f hg)).2)⟩) fun af => ?_
 refine G1 r_not ?_
 refine gpo <| ge <| tn ?_
 refine gi (fun h => ((oT h).imp (fun h => ((oT h).imp (fun h => ((oT h).imp (fun h => ((oT h).imp (fun h => ((oT h).imp (fun h => (nT h)) (fun h => (nT h)))) (fun h => (nT h)))) (fun h => (dT h)))) (fun h => (dT h)))) (fun h => (nT h)))) (fun h => ⟨⟨⟨⟨⟨(nF (oF (oF (oF (oF (oF h).1).1).1).1).1), (nF (oF (oF (oF (oF (oF h).1).1).1).1).2)⟩, (nF (oF (oF (oF (oF h).1).1).1).2)⟩, (dF (oF (oF (oF h).1).1).2)⟩, (dF (oF (oF h).1).2)⟩, (nF (oF h).2)⟩) ?_ ?_
 ·refine gS <| gR <| gN <| ge <| tn <| gr <| tr ?_
  exact gz1
 ·refine gk <| tn <| gS <| gS <| gR <| gN <| ge <| tn <| gb <| gE fun _ => gE fun mu => ?_
  refine l1 mu (fun b => [(5, .int .i64 b)]) [(2, _), (3, _)] (fun _ => []) [(aa, _, _), (ab, _, _)] [1, 0] fun b t _ => gS <| gS <| gR ?_
  refine gM ?_
  refine gF 3 Try.underlying43 ti_41 ?_
  refine gB 0 tU41 ?_
  refine g1 (fun d => r_len d tU41) ?_
  refine g2 r_lss <| ge <| tn ?_
  refine gi dT dF ?_ ?_
  ·refine gk <| tn <| gS <| gb <| gS <| gD fun q => gT0 ?_
   refine gW 0 11 [] ?_
   refine gF 3 Try.underlying43 ti_41 ?_
   refine gB 0 tU41 ?_
   refine gM ?_
   refine gI2 tU41 ti_9 fun aj => ?_
   refine gE fun ag => gL tU9 ?_
   refine gF 3 Try.underlying93 ti_41 ?_
   refine gB 1 tU41 ?_
   refine gM ?_
   refine gI2 tU41 ti_9 fun ak => ?_
   refine gE fun ah => gL tU9 ?_
   refine g2 r_sneq <| geT fun m => ?_
   refine gZ <| tn ?_
   refine gi dT dF ?_ ?_
   ·refine gS <| gR <| gN <| ge <| tn <| gr <| br <| tr <| tr <| br <| tr <| gT0 ?_
    exact gz1
   ·refine gk <| bn <| tn <| gR <| gM ?_
    refine g2s r_addI ?_
    refine gN <| ge <| gT0 ?_
    exact k1 [0, 1]
  ·refine gx <| te <| te <| bh <| tn <| gS <| gR <| gN <| ge <| tn <| gr ?_
   exact gz1
end Go.Proofs.Yteohbfaechfliaa
