/-
  PRINTED BY PROGRAM: for each function its condition (vc), and that this suffices (ok).
-/
import Derived.Test.YtenokfdkckhhiaaGreatDoorQBuildNestsGT
namespace Go.Proofs.YtenokfdkckhhiaaGreatDoor
open Go.RowKit
set_option linter.unusedVariables false
set_option maxHeartbeats 1000000
set_option maxRecDepth 10000
def law14_body.vc (g : Str) (R : Value → World → Prop) (w : World) : Prop :=
CallK Tryz.prog 16 #[.string (Bs g)] w [] (fun v x => ∃ (l : Sl),v = Sl.v l ∧
CallK Tryz.prog 11 #[Sl.v l] x [] (fun v m => ∃ (y : Int) (z : Str) (aa : Str) (ab : Sl) (b : Sl) (c : Int),v = .tuple #[.agg #[.int .i64 y,.string (Bs z),.string (Bs aa),Sl.v ab,Sl.v b],.int .i64 c] ∧
∃ o : Addr,((((¬ (c ≠ 0)) ∧ (¬ ((b.n : Int) ≠ 1)))) → ((0 : Int) ≤ 0 ∧ 0 < (b.n : Int)) ∧  b.a = some o) ∧
∀ (d : World) (ad : Nat),New m ad d → Chg [] m d →
∃ (f : Sl),((((¬ (c ≠ 0)) ∧ (¬ ((b.n : Int) ≠ 1)))) → d.cell? ((o.add (0 * 5)).add 4) = some (Sl.v f)) ∧
∃ p : Addr,(((((¬ (c ≠ 0)) ∧ (¬ ((b.n : Int) ≠ 1))) ∧ (¬ ((f.n : Int) ≠ 2)))) → ((0 : Int) ≤ 0 ∧ 0 < (b.n : Int)) ∧  b.a = some p) ∧
∃ (i : Sl),(((((¬ (c ≠ 0)) ∧ (¬ ((b.n : Int) ≠ 1))) ∧ (¬ ((f.n : Int) ≠ 2)))) → d.cell? ((p.add (0 * 5)).add 4) = some (Sl.v i)) ∧
∃ q : Addr,(((((¬ (c ≠ 0)) ∧ (¬ ((b.n : Int) ≠ 1))) ∧ (¬ ((f.n : Int) ≠ 2)))) → ((0 : Int) ≤ 1 ∧ 1 < (i.n : Int)) ∧  i.a = some q) ∧
∃ (j : Str),(((((¬ (c ≠ 0)) ∧ (¬ ((b.n : Int) ≠ 1))) ∧ (¬ ((f.n : Int) ≠ 2)))) → d.cell? ((q.add (1 * 5)).add 1) = some (.string (Bs j))) ∧
(((((c ≠ 0) ∨ ((b.n : Int) ≠ 1)) ∨ ((f.n : Int) ≠ 2)) ∨ (j ≠ ([98,111,100,121] : Str))) →
R (.tuple #[Sl.v Sl.nil,.bool false]) d) ∧
(((((¬ (c ≠ 0)) ∧ (¬ ((b.n : Int) ≠ 1))) ∧ (¬ ((f.n : Int) ≠ 2))) ∧ (¬ (j ≠ ([98,111,100,121] : Str)))) →
((0 : Int) ≤ 0 ∧ 0 < (b.n : Int)) ∧ ∃ r : Addr,b.a = some r ∧
∃ (k : Sl),(d.cell? ((r.add (0 * 5)).add 4) = some (Sl.v k)) ∧
((0 : Int) ≤ 1 ∧ 1 < (k.n : Int)) ∧ ∃ s : Addr,k.a = some s ∧
∃ (t : Sl),(d.cell? ((s.add (1 * 5)).add 4) = some (Sl.v t)) ∧
R (.tuple #[Sl.v t,.bool true]) d)))
theorem law14_body.ok (g : Str) {R : Value → World → Prop} {w : World} (af : law14_body.vc g R w) : Calls Tryz.prog 18 #[.string (Bs g)] w (Ret R) := by
 refine go _ Tryz.func18 Tryz.ntmps18 af ?_
 refine gS <| gR <| gN ?_
 refine gN <| ge <| tn <| gS <| gR ?_
 refine gM ?_
 refine gC [] Tryz.func16 fun _ x => gE fun l => gQ ?_
 refine gC [] Tryz.func11 fun _ m => gE fun y => gE fun z => gE fun aa => gE fun ab => gE fun b => gE fun c => gQ ?_
 refine gM ?_
 refine gx1 ?_
 refine gx1 ?_
 refine na ti_28 fun w9 ad => ?_
 refine wn 0 0 ti_28 fun d => ?_
 refine gN <| ge <| tn <| gS <| gS <| gR ?_
 refine gM ?_
 refine g2 r_neq ?_
 refine gM ?_
 refine GF 4 Tryz.underlying28 ti_26 ?_
 refine GB 0 tU26 ?_
 refine G1 (fun u => r_len u tU26) ?_
 refine G2 r_neq ?_
 refine gpo ?_
 refine gM ?_
 refine GF 4 Tryz.underlying28 ti_26 ?_
 refine GB 0 tU26 ?_
 refine GI2 tU26 ti_28 (fun hg => ⟨(dF (oF (g_f hg)).1),(dF (oF (g_f hg)).2)⟩) fun o => ?_
 refine GF 4 Tryz.underlying28 ti_26 <| gT1 ?_
 refine gE fun f => GLd tU26 (fun hg => ⟨(dF (oF (g_f hg)).1),(dF (oF (g_f hg)).2)⟩) ?_
 refine G1 (fun u => r_len u tU26) ?_
 refine G2 r_neq ?_
 refine gpo ?_
 refine gM ?_
 refine GF 4 Tryz.underlying28 ti_26 ?_
 refine GB 0 tU26 ?_
 refine GI2 tU26 ti_28 (fun hg => ⟨⟨(dF (oF (oF (g_f hg)).1).1),(dF (oF (oF (g_f hg)).1).2)⟩,(dF (oF (g_f hg)).2)⟩) fun p => ?_
 refine GF 4 Tryz.underlying28 ti_26 ?_
 refine gE fun i => GLd tU26 (fun hg => ⟨⟨(dF (oF (oF (g_f hg)).1).1),(dF (oF (oF (g_f hg)).1).2)⟩,(dF (oF (g_f hg)).2)⟩) ?_
 refine GI2 tU26 ti_28 (fun hg => ⟨⟨(dF (oF (oF (g_f hg)).1).1),(dF (oF (oF (g_f hg)).1).2)⟩,(dF (oF (g_f hg)).2)⟩) fun q => ?_
 refine GF 1 Tryz.underlying28 ti_9 ?_
 refine gE fun j => GLd tU9 (fun hg => ⟨⟨(dF (oF (oF (g_f hg)).1).1),(dF (oF (oF (g_f hg)).1).2)⟩,(dF (oF (g_f hg)).2)⟩) ?_
 refine G2 r_sneq ?_
 refine gpo <| ge <| tn ?_
 refine gi (fun h => ((oT h).imp (fun h => ((oT h).imp (fun h => ((oT h).imp (fun h => (dT h)) (fun h => (dT h)))) (fun h => (dT h)))) (fun h => (dT h)))) (fun h => ⟨⟨⟨(dF (oF (oF (oF h).1).1).1),(dF (oF (oF (oF h).1).1).2)⟩,(dF (oF (oF h).1).2)⟩,(dF (oF h).2)⟩) ?_ ?_
 ·refine gS <| gR <| gN ?_
  refine gN <| ge <| tn <| gr <| tr ?_
  exact gz2
 ·refine gk <| tn <| gS <| gR <| gF 4 Tryz.underlying28 ti_26 ?_
  refine gB 0 tU26 ?_
  refine gI1 tU26 ti_28 fun r => ?_
  refine gF 4 Tryz.underlying28 ti_26 ?_
  refine gE fun k => gL tU26 ?_
  refine gI1 tU26 ti_28 fun s => ?_
  refine gF 4 Tryz.underlying28 ti_26 ?_
  refine gE fun t => gL tU26 ?_
  refine gN ?_
  refine gN <| ge <| tn <| gr ?_
  exact gz2
end Go.Proofs.YtenokfdkckhhiaaGreatDoor
