/-
  PRINTED BY PROGRAM: for each function its condition (vc), and that this suffices (ok).
-/
import Derived.Test.YtenokfdkckhhiaaGreatDoorQBuildNestsGT
namespace Go.Proofs.YtenokfdkckhhiaaGreatDoor
open Go.RowKit
set_option linter.unusedVariables false
set_option maxHeartbeats 1000000
set_option maxRecDepth 10000
def stack_Is.vc (a : Str) (b : Int) (R : Value → World → Prop) (w : World) : Prop :=
CallK Tryz.prog 129 #[.int .i64 b] w [] (fun v f => ∃ (c : Str),v = .string (Bs c) ∧
CallK Tryz.prog 128 #[.string (Bs c),.string (Bs a)] f [] (fun v g => ∃ (d : Bool),v = .bool d ∧
R (.bool d) g))
theorem stack_Is.ok (a : Str) (b : Int) {R : Value → World → Prop} {w : World} (h : stack_Is.vc a b R w) : Calls Tryz.prog 100 #[.string (Bs a),.int .i64 b] w (Ret R) := by
 refine go _ Tryz.func100 Tryz.ntmps100 h ?_
 refine gS <| gR <| gN <| ge <| tn <| gS <| gR ?_
 refine gM ?_
 refine gC [] Tryz.func129 fun _ f => gE fun c => gQ ?_
 refine gM ?_
 refine gC [] Tryz.func128 fun _ g => gE fun d => gQ ?_
 refine gN <| ge <| tn <| gr ?_
 exact gz1
def stack_Implied.vc (c : Sl) (f : Str) (R : Value → World → Prop) (w : World) : Prop :=
∃ (k : Int → World → Prop) (o : Int → World → Nat),
k 0 w ∧
(∀ (b : Int) (d : World),k b d →
((b < (c.n : Int)) →
(I64 ((c.n : Int) - 1)) ∧
(I64 (((c.n : Int) - 1) - b)) ∧
((0 : Int) ≤ ((c.n : Int) - 1) - b ∧ ((c.n : Int) - 1) - b < (c.n : Int)) ∧ ∃ l : Addr,c.a = some l ∧
∃ (g : Str),(d.cell? (l.add ((((c.n : Int) - 1) - b).toNat * 1)) = some (.string (Bs g))) ∧
∃ (j : Bool),(((¬ (g = f))) → Calls Tryz.prog 100 #[.string (Bs g),.int .i64 4] d (Ret fun v w' => Ext d w' ∧ v = .bool j)) ∧
(∀ i : World,Ext d i →
(((g = f) ∨ (j = false)) →
R (.int .i64 b) i) ∧
(((¬ (g = f)) ∧ (j = true)) →
(I64 (b + 1)) ∧
k (b + 1) i ∧ o (b + 1) i < o b d))) ∧
((¬ (b < (c.n : Int))) →
R (.int .i64 b) d))
theorem stack_Implied.ok (c : Sl) (f : Str) {R : Value → World → Prop} {w : World} (p : stack_Implied.vc c f R w) : Calls Tryz.prog 134 #[Sl.v c,.string (Bs f)] w (Ret R) := by
 refine go _ Tryz.func134 Tryz.ntmps134 p ?_
 refine gS <| gR <| gN <| ge <| tn <| gS <| gR ?_
 refine gN <| ge <| tn <| gS <| gb <| gE fun _ => gE fun mu => ?_
 refine l1 mu (fun b => [(5,.int .i64 b)]) [(0,_),(1,_)] (fun _ => []) [] [] fun b d _ => gS <| gS <| gR ?_
 refine gM ?_
 refine gM ?_
 refine g1 (fun m => r_len m tU44) ?_
 refine g2 r_lss <| ge <| tn ?_
 refine gi dT dF ?_ ?_
 ·refine gk <| tn <| gb <| gS <| gR <| gM ?_
  refine gM ?_
  refine g1 (fun m => r_len m tU44) ?_
  refine g2s r_subI ?_
  refine gM ?_
  refine g2s r_subI ?_
  refine gI1 tU44 ti_9 fun l => ?_
  refine gE fun g => gL tU9 ?_
  refine gN <| ge <| tn <| gS <| gS <| gR ?_
  refine gM ?_
  refine gM ?_
  refine g2 r_seql ?_
  refine gM ?_
  refine G1 r_move ?_
  refine gE fun j => GC Tryz.func100 (fun hg => (dF (g_f hg))) fun i => ?_
  refine G1 r_not ?_
  refine gpo <| ge <| tn ?_
  refine gi (fun h => ((oT h).imp (fun h => (dT h)) (fun h => (nT h)))) (fun h => ⟨(dF (oF h).1),(nF (oF h).2)⟩) ?_ ?_
  ·refine gx <| te <| bm <| te <| bh <| tn <| gS <| gR ?_
   refine gM ?_
   refine gN <| ge <| tn <| gr ?_
   exact gz1
  ·refine gk <| tn <| gR <| gM ?_
   refine g2s r_addI ?_
   refine gN <| ge <| bn ?_
   exact k1 []
 ·refine gx <| te <| te <| bh <| tn <| gS <| gR <| gM ?_
  refine gN <| ge <| tn <| gr ?_
  exact gz1
end Go.Proofs.YtenokfdkckhhiaaGreatDoor
