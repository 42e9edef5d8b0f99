/-
  PRINTED BY PROGRAM: for each function its condition (vc), and that this suffices (ok).
-/
import Derived.Test.YtenokfdkckhhiaaGreatDoorQBuildNestsGT
namespace Go.Proofs.YtenokfdkckhhiaaGreatDoor
open Go.RowKit
set_option linter.unusedVariables false
set_option maxHeartbeats 1000000
set_option maxRecDepth 10000
def ref09_Decode.vc (b : Str) (j : Bool) (R : Value → World → Prop) (w : World) : Prop :=
∃ (k : Str → Int → World → Prop) (l : Str → Int → World → Nat),
k ([] : Str) 0 w ∧
(∀ (c : Str) (a : Int) (d : World),k c a d →
((a < (b.length : Int)) →
((0 : Int) ≤ a ∧ a < (b.length : Int)) ∧
((((b.getD a.toNat 0).toNat : Int) = 38) →
CallK Tryz.prog 80 #[.string (Bs b),.int .i64 a,.bool j] d [] (fun v m => ∃ (f : Str) (g : Int),v = .tuple #[.string (Bs f),.int .i64 g] ∧
(List.length c + List.length f ≤ 9223372036854775807) ∧
(I64 (a + g)) ∧
k (c ++ f) (a + g) m ∧ l (c ++ f) (a + g) m < l c a d)) ∧
((¬ (((b.getD a.toNat 0).toNat : Int) = 38)) →
(I64 (a + 1)) ∧
((0 : Int) ≤ a ∧ (a : Int) ≤ a + 1 ∧ a + 1 ≤ (b.length : Int)) ∧
(List.length c + List.length ((List.drop a.toNat b).take ((a + 1).toNat - a.toNat)) ≤ 9223372036854775807) ∧
(I64 (a + 1)) ∧
k (c ++ ((List.drop a.toNat b).take ((a + 1).toNat - a.toNat))) (a + 1) d ∧ l (c ++ ((List.drop a.toNat b).take ((a + 1).toNat - a.toNat))) (a + 1) d < l c a d)) ∧
((¬ (a < (b.length : Int))) →
R (.string (Bs c)) d))
theorem ref09_Decode.ok (b : Str) (j : Bool) {R : Value → World → Prop} {w : World} (o : ref09_Decode.vc b j R w) : Calls Tryz.prog 48 #[.string (Bs b),.bool j] w (Ret R) := by
 refine go _ Tryz.func48 Tryz.ntmps48 o ?_
 refine gS <| gR <| gN <| ge <| tn <| gS <| gR ?_
 refine gN <| ge <| tn <| gS <| gS <| gR ?_
 refine gN <| ge <| tn <| gb <| gE fun _ => gE fun mu => ?_
 refine l2 mu (fun c a => [(5,.string (Bs c)),(6,.int .i64 a)]) [(0,_),(1,_)] (fun _ _ => []) [] [] fun c a d _ => gS <| gS <| gR ?_
 refine gM ?_
 refine gM ?_
 refine g1 (fun i => r_slen i tU9) ?_
 refine g2 r_lss <| ge <| tn ?_
 refine gi dT dF ?_ ?_
 ·refine gk <| tn <| gb <| gS <| gS <| gR <| gM ?_
  refine gM ?_
  refine g2s (fun i n h => r_sindex i n tU9 h) ?_
  refine g2 r_eql <| ge <| tn ?_
  refine gi dT dF ?_ ?_
  ·refine gS <| gR <| gM ?_
   refine gM ?_
   refine gM ?_
   refine gC [] Tryz.func80 fun _ m => gE fun f => gE fun g => gQ ?_
   refine gM ?_
   refine gx1 ?_
   refine gx1 ?_
   refine gN ?_
   refine gN <| ge <| tn <| gS <| gR ?_
   refine gM ?_
   refine gM ?_
   refine g2s r_sadd ?_
   refine gN <| ge <| tn <| gS <| gR ?_
   refine gM ?_
   refine gM ?_
   refine g2s r_addI ?_
   refine gN <| ge <| tn <| gx <| te <| bh ?_
   exact k2 []
  ·refine gk <| tn <| gS <| gR <| gM ?_
   refine gM ?_
   refine gM ?_
   refine gM ?_
   refine g2s r_addI ?_
   refine g3s (fun i n p h => r_sslice2 i n p tU9 h) ?_
   refine g2s r_sadd ?_
   refine gN <| ge <| tn <| gR ?_
   refine gM ?_
   refine g2s r_addI ?_
   refine gN <| ge <| bn ?_
   exact k2 []
 ·refine gx <| te <| te <| bh <| tn <| gS <| gR <| gM ?_
  refine gN <| ge <| tn <| gr ?_
  exact gz1
end Go.Proofs.YtenokfdkckhhiaaGreatDoor
