/-
  PRINTED BY PROGRAM: for each function its condition (vc), and that this suffices (ok).
-/
import Derived.Test.YtghmgfkdnolcdaaGreatQApplyAllGT
namespace Go.Proofs.YtghmgfkdnolcdaaGreat
open Go.RowKit
set_option linter.unusedVariables false
set_option maxHeartbeats 1000000
set_option maxRecDepth 10000
def law23_few.vc (c : Sl) (R : Value → World → Prop) (w : World) : Prop :=
∃ (j : Int → World → Prop) (m : Int → World → Nat),
j 0 w ∧
(∀ (b : Int) (d : World), j b d →
(((b < (c.n : Int)) ∧ (b < 100)) →
((0 : Int) ≤ b ∧ b < (c.n : Int)) ∧ ∃ k : Addr, c.a = some k ∧
∃ (g : Str), (d.cell? ((k.add (b.toNat * 7)).add 5) = some (.string (Bs g))) ∧
∃ l : Addr, (((¬ (200 < (g.length : Int)))) → ((0 : Int) ≤ b ∧ b < (c.n : Int)) ∧  c.a = some l) ∧
∃ (i : Str), (((¬ (200 < (g.length : Int)))) → d.cell? ((l.add (b.toNat * 7)).add 6) = some (.string (Bs i))) ∧
(((200 < (g.length : Int)) ∨ (6000 < (i.length : Int))) →
R (.bool false) d) ∧
(((¬ (200 < (g.length : Int))) ∧ (¬ (6000 < (i.length : Int)))) →
(I64 (b + 1)) ∧
j (b + 1) d ∧ m (b + 1) d < m b d)) ∧
(((¬ (b < (c.n : Int))) ∨ (¬ (b < 100))) →
R (.bool (decide ((c.n : Int) ≤ 100))) d))
theorem law23_few.ok (c : Sl) {R : Value → World → Prop} {w : World} (o : law23_few.vc c R w) : Calls Tryz.prog 5 #[Sl.v c] w (Ret R) := by
 refine go _ Tryz.func5 Tryz.ntmps5 o ?_
 refine gS <| gR <| gN <| ge <| tn <| gS <| gS <| gR ?_
 refine gN <| ge <| tn <| gb <| gE fun _ => gE fun mu => ?_
 refine l1 mu (fun b => [(3, .int .i64 b)]) [(0, _)] (fun _ => []) [] [] fun b d _ => gS <| gS <| gR ?_
 refine gM ?_
 refine gM ?_
 refine g1 (fun f => r_len f tU26) ?_
 refine g2 r_lss ?_
 refine gM ?_
 refine G1 r_move ?_
 refine G2 r_lss ?_
 refine gpa <| ge <| tn ?_
 refine gi (fun h => ⟨(dT (aT h).1), (dT (aT h).2)⟩) (fun h => ((aF h).imp (fun h => (dF h)) (fun h => (dF h)))) ?_ ?_
 ·refine gk <| tn <| gS <| gb <| gS <| gR <| gM ?_
  refine gM ?_
  refine gI1 tU26 ti_38 fun k => ?_
  refine gF 5 Tryz.underlying38 ti_9 ?_
  refine gE fun g => gL tU9 ?_
  refine g1 (fun f => r_slen f tU9) ?_
  refine g2 r_gtr ?_
  refine gM ?_
  refine G1 r_move ?_
  refine G1 r_move ?_
  refine GI2 tU26 ti_38 (fun hg => (dF (g_f hg))) fun l => ?_
  refine GF 6 Tryz.underlying38 ti_9 ?_
  refine gE fun i => GLd tU9 (fun hg => (dF (g_f hg))) ?_
  refine G1 (fun f => r_slen f tU9) ?_
  refine G2 r_gtr ?_
  refine gpo <| ge <| tn ?_
  refine gi (fun h => ((oT h).imp (fun h => (dT h)) (fun h => (dT h)))) (fun h => ⟨(dF (oF h).1), (dF (oF h).2)⟩) ?_ ?_
  ·refine gS <| gR <| gN <| ge <| tn <| gr <| br <| tr <| tr <| br <| tr ?_
   exact gz1
  ·refine gk <| bn <| tn <| gR <| gM ?_
   refine g2s r_addI ?_
   refine gN <| ge ?_
   exact k1 []
 ·refine gx <| te <| te <| bh <| tn <| gS <| gR <| gM ?_
  refine g1 (fun f => r_len f tU26) ?_
  refine g2 r_leq ?_
  refine gN <| ge <| tn <| gr ?_
  exact gz1
end Go.Proofs.YtghmgfkdnolcdaaGreat
