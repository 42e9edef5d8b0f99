/-
  PRINTED BY PROGRAM: for each function its condition (vc), and that this suffices (ok).
-/
import Derived.Test.YtenokfdkckhhiaaGreatDoorQBuildFostersGT
namespace Go.Proofs.YtenokfdkckhhiaaGreatDoor
open Go.RowKit
set_option linter.unusedVariables false
set_option maxHeartbeats 1000000
set_option maxRecDepth 10000
def build_blank.vc (f : Int) (k : Str) (c : Str) (l : Sl) (m : Bool) (R : Value → World → Prop) (w : World) : Prop :=
((f ≠ 3) →
∀ (b : World) (d : Nat),New w d b → Chg [] w b →
R (.bool false) b) ∧
((¬ (f ≠ 3)) →
∀ (b : World) (d : Nat),New w d b → Chg [] w b →
∃ (n : Int → World → Prop) (p : Int → World → Nat),
n 0 b ∧
(∀ (a : Int) (g : World),n a g →
((a < (c.length : Int)) →
((0 : Int) ≤ a ∧ a < (c.length : Int)) ∧
CallK Tryz.prog 124 #[.int .u8 ((c.getD a.toNat 0).toNat : Int)] g [d] (fun v i => ∃ (j : Bool),v = .bool j ∧
((j = false) →
R (.bool false) i) ∧
((j = true) →
(I64 (a + 1)) ∧
n (a + 1) i ∧ p (a + 1) i < p a g))) ∧
((¬ (a < (c.length : Int))) →
R (.bool true) g)))
theorem build_blank.ok (f : Int) (k : Str) (c : Str) (l : Sl) (m : Bool) {R : Value → World → Prop} {w : World} (q : build_blank.vc f k c l m R w) : Calls Tryz.prog 94 #[.agg #[.int .i64 f,.string (Bs k),.string (Bs c),Sl.v l,.bool m]] w (Ret R) := by
 refine go _ Tryz.func94 Tryz.ntmps94 q ?_
 refine gS <| gR <| nb fun b d => ?_
 refine gN <| ge <| tn <| gS <| gS <| gR ?_
 refine gF 0 Tryz.underlying51 ti_3 ?_
 refine gB 0 tU3 ?_
 refine g2 r_neq <| ge <| tn ?_
 refine gi dT dF ?_ ?_
 ·refine gS <| gR <| gN <| ge <| tn <| gr <| tr <| gT1 ?_
  exact gz1
 ·refine gk <| tn <| gS <| gS <| gR <| gF 2 Tryz.underlying51 ti_9 ?_
  refine gB 0 tU9 ?_
  refine g1 (fun o => r_slen o tU9) ?_
  refine gM <| ge <| tn <| gb <| gT1 <| gE fun _ => gE fun mu => ?_
  refine l1 mu (fun a => [(10,.int .i64 a)]) [(1,_),(9,_)] (fun _ => []) [(d,_,_)] [0] fun a g _ => gS <| gR ?_
  refine g2 r_lss <| ge <| tn <| gS ?_
  refine gi dT dF ?_ ?_
  ·refine gk <| tn <| gS <| gb <| gS <| gR <| gM ?_
   refine gN <| ge <| tn <| gS <| gR ?_
   refine gF 2 Tryz.underlying51 ti_9 ?_
   refine gB 0 tU9 ?_
   refine gM ?_
   refine g2s (fun o r h => r_sindex o r tU9 h) ?_
   refine gC [0] Tryz.func124 fun _ i => gE fun j => gQ ?_
   refine g1 r_not <| ge <| tn ?_
   refine gi nT nF ?_ ?_
   ·refine gS <| gR <| gN <| ge <| tn <| gr <| br <| tr <| tr <| br <| tr ?_
    exact gz1
   ·refine gk <| bn <| tn <| gR <| g2s r_addI ?_
    refine gM <| ge ?_
    exact k1 [0]
  ·refine gx <| te <| te <| bh <| tn <| gS <| gR <| gN <| ge <| tn <| gr ?_
   exact gz1
end Go.Proofs.YtenokfdkckhhiaaGreatDoor
