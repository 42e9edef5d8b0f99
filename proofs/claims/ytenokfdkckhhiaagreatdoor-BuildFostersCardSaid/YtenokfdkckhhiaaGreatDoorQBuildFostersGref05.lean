/-
  PRINTED BY PROGRAM: for each function its condition (vc), and that this suffices (ok).
-/
import Derived.Test.YtenokfdkckhhiaaGreatDoorQBuildFostersGT
namespace Go.Proofs.YtenokfdkckhhiaaGreatDoor
open Go.RowKit
set_option linter.unusedVariables false
set_option maxHeartbeats 1000000
set_option maxRecDepth 10000
def ref05_Size.vc (j : Int) (k : Str) (l : Str) (m : Sl) (d : Sl) (R : Value → World → Prop) (w : World) : Prop :=
∀ (h : World) (i : Nat),New w i h → Chg [] w h →
∃ (o : Int → Int → World → Prop) (y : Int → Int → World → Nat),
o 1 0 h ∧
(∀ (c : Int) (b : Int) (f : World),o c b f →
((b < (d.n : Int)) →
((0 : Int) ≤ b ∧ b < (d.n : Int)) ∧ ∃ p : Addr,d.a = some p ∧
∃ (q : Int) (r : Str) (s : Str) (t : Sl) (u : Sl),(Cells f (p.add (b.toNat * 5)) [.int .i64 q,.string (Bs r),.string (Bs s),Sl.v t,Sl.v u]) ∧
CallK Tryz.prog 17 #[.agg #[.int .i64 q,.string (Bs r),.string (Bs s),Sl.v t,Sl.v u]] f [i] (fun v x => ∃ (g : Int),v = .int .i64 g ∧
(I64 (c + g)) ∧
(I64 (b + 1)) ∧
o (c + g) (b + 1) x ∧ y (c + g) (b + 1) x < y c b f)) ∧
((¬ (b < (d.n : Int))) →
R (.int .i64 c) f))
theorem ref05_Size.ok (j : Int) (k : Str) (l : Str) (m : Sl) (d : Sl) {R : Value → World → Prop} {w : World} (z : ref05_Size.vc j k l m d R w) : Calls Tryz.prog 17 #[.agg #[.int .i64 j,.string (Bs k),.string (Bs l),Sl.v m,Sl.v d]] w (Ret R) := by
 refine go _ Tryz.func17 Tryz.ntmps17 z ?_
 refine gS <| gR <| nb fun h i => ?_
 refine gN <| ge <| tn <| gS <| gR ?_
 refine gN <| ge <| tn <| gS <| gS <| gR ?_
 refine gN <| ge <| tn <| gb <| gT1 <| gE fun _ => gE fun mu => ?_
 refine l2 mu (fun c b => [(3,.int .i64 c),(4,.int .i64 b)]) [(1,_)] (fun _ _ => []) [(i,_,_)] [0] fun c b f _ => gS <| gS <| gR ?_
 refine gM ?_
 refine gF 4 Tryz.underlying28 ti_26 ?_
 refine gB 0 tU26 ?_
 refine g1 (fun aa => r_len aa tU26) ?_
 refine g2 r_lss <| ge <| tn ?_
 refine gi dT dF ?_ ?_
 ·refine gk <| tn <| gS <| gb <| gR <| gM ?_
  refine gF 4 Tryz.underlying28 ti_26 ?_
  refine gB 0 tU26 ?_
  refine gM ?_
  refine gI1 tU26 ti_28 fun p => ?_
  refine gE fun q => gE fun r => gE fun s => gE fun t => gE fun u => gLN Tryz.underlying28 ti_28 ?_
  refine gC [0] Tryz.func17 fun _ x => gE fun g => gQ ?_
  refine g2s r_addI ?_
  refine gN <| ge <| bn <| tn <| gR ?_
  refine gM ?_
  refine g2s r_addI ?_
  refine gN <| ge ?_
  exact k2 [0]
 ·refine gx <| te <| te <| bh <| tn <| gS <| gR <| gM ?_
  refine gN <| ge <| tn <| gr ?_
  exact gz1
end Go.Proofs.YtenokfdkckhhiaaGreatDoor
