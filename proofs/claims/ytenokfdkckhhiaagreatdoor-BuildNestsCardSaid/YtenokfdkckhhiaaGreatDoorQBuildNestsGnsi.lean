/-
  PRINTED BY PROGRAM: for each function its condition (vc), and that this suffices (ok).
-/
import Derived.Test.YtenokfdkckhhiaaGreatDoorQBuildNestsGT
namespace Go.Proofs.YtenokfdkckhhiaaGreatDoor
open Go.RowKit
set_option linter.unusedVariables false
set_option maxHeartbeats 1000000
set_option maxRecDepth 10000
def build_builder_imply.vc (a : Addr) (b : Str) (R : Value → World → Prop) (w : World) : Prop :=
CallK Tryz.prog 127 #[.pointer (some a)] w [] (fun v f => ∃ (c : Sl),v = Sl.v c ∧
CallK Tryz.prog 134 #[Sl.v c,.string (Bs b)] f [] (fun v g => ∃ (d : Int),v = .int .i64 d ∧
CallK Tryz.prog 62 #[.pointer (some a),.int .i64 d] g [] (fun v h => v = .tuple #[] ∧
R (.tuple #[]) h)))
theorem build_builder_imply.ok (a : Addr) (b : Str) {R : Value → World → Prop} {w : World} (i : build_builder_imply.vc a b R w) : Calls Tryz.prog 109 #[.pointer (some a),.string (Bs b)] w (Ret R) := by
 refine go _ Tryz.func109 Tryz.ntmps109 i ?_
 refine gR <| gM ?_
 refine gM ?_
 refine gC [] Tryz.func127 fun _ f => gE fun c => gQ ?_
 refine gM ?_
 refine gC [] Tryz.func134 fun _ g => gE fun d => gQ ?_
 refine gC [] Tryz.func62 fun _ h => gQ <| ge <| gze ?_
 exact gz0
def build_builder_names.vc (h : Addr) (R : Value → World → Prop) (w : World) : Prop :=
∃ (f : Sl),(w.cell? (h.add 3) = some (Sl.v f)) ∧
∃ (l : Sl → Int → World → Prop) (r : Sl → Int → World → Nat),
l Sl.nil 0 w ∧
(∀ (d : Sl) (b : Int) (c : World),l d b c →
((b < (f.n : Int)) →
((0 : Int) ≤ b ∧ b < (f.n : Int)) ∧ ∃ m : Addr,f.a = some m ∧
∃ (o : Option Addr),(c.cell? (m.add (b.toNat * 1)) = some (.pointer o)) ∧
∃ p : Addr,(o = some p) ∧
∃ (i : Str),(c.cell? (p.add 2) = some (.string (Bs i))) ∧
∀ (g : World) (j : Nat),New c j g → Chg [] c g →
∀ (_ : Box g j 9 [.string (Bs i)]),
RunK Tryz.prog (Builtin.append_ #[44,44] 44 #[Sl.v d,Sl.v (Sl.mk (some ⟨j,0,none⟩) 1 1)]) g [] (fun v q => ∃ (k : Sl),v = Sl.v k ∧
(I64 (b + 1)) ∧
l k (b + 1) q ∧ r k (b + 1) q < r d b c)) ∧
((¬ (b < (f.n : Int))) →
R (Sl.v d) c))
theorem build_builder_names.ok (h : Addr) {R : Value → World → Prop} {w : World} (s : build_builder_names.vc h R w) : Calls Tryz.prog 127 #[.pointer (some h)] w (Ret R) := by
 refine go _ Tryz.func127 Tryz.ntmps127 s ?_
 refine gS <| gR <| gN <| ge <| tn <| gS <| gR ?_
 refine gN <| ge <| tn <| gS <| gS <| gR ?_
 refine gM ?_
 refine g1 r_nilCheck ?_
 refine gF 3 Tryz.underlying60 ti_54 ?_
 refine gE fun f => gL tU54 ?_
 refine g1 (fun t => r_len t tU54) ?_
 refine gM <| ge <| tn <| gb <| gE fun _ => gE fun mu => ?_
 refine l2 mu (fun d b => [(3,Sl.v d),(11,.int .i64 b)]) [(9,_),(10,_)] (fun _ _ => []) [] [] fun d b c _ => gS <| gR ?_
 refine g2 r_lss <| ge <| tn <| gS ?_
 refine gi dT dF ?_ ?_
 ·refine gk <| tn <| gS <| gb <| gS <| gR <| gI1 tU54 ti_53 fun m => ?_
  refine gE fun o => gL tU53 ?_
  refine gN <| ge <| tn <| gR ?_
  refine gM ?_
  refine gM ?_
  refine gnP fun p => ?_
  refine gF 2 Tryz.underlying56 ti_9 ?_
  refine gE fun i => gL tU9 ?_
  refine ns [.string (Bs i)] tU44 ti_9 fun g j => gT1 ?_
  refine gX 0 ?_
  refine gR2 [] r_append fun _ q => gE fun k => gQ ?_
  refine gN <| ge <| bn <| tn <| gR ?_
  refine g2s r_addI ?_
  refine gM <| ge ?_
  exact k2 []
 ·refine gx <| te <| te <| bh <| tn <| gS <| gR <| gM ?_
  refine gN <| ge <| tn <| gr ?_
  exact gz1
end Go.Proofs.YtenokfdkckhhiaaGreatDoor
