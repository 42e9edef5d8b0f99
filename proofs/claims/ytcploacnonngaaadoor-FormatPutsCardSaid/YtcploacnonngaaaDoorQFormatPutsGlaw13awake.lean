/-
  PRINTED BY PROGRAM: for each function its condition (vc), and that this suffices (ok).
-/
import Derived.Test.YtcploacnonngaaaDoorQFormatPutsGT
namespace Go.Proofs.YtcploacnonngaaaDoor
open Go.RowKit
set_option linter.unusedVariables false

/-- The condition of topiary/topiarylaw13.awake. -/
def law13_awake.vc  (R : Value → World → Prop) (w : World) : Prop :=
CallK Tryd.prog 6 #[] w [] (fun v w3 => ∃ (r_2 : Option Addr), v = .pointer r_2 ∧
(((Option.isNone r_2) = true) →
R (.bool false) w3) ∧
(((Option.isNone r_2) = false) →
∃ (J_10 : Int → World → Prop) (mu_11 : Int → World → Nat),
J_10 1 w3 ∧
(∀ (i_8 : Int) (w9 : World), J_10 i_8 w9 →
((i_8 ≤ 4) →
CallK Tryd.prog 9 #[.pointer r_2, .agg #[.int .i64 i_8, .string (Bs ([98] : Str)), Sl.v Sl.nil]] w9 [] (fun v w17 => v = .tuple #[] ∧
(I64 (i_8 + 1)) ∧
J_10 (i_8 + 1) w17 ∧ mu_11 (i_8 + 1) w17 < mu_11 i_8 w9)) ∧
((¬ (i_8 ≤ 4)) →
CallK Tryd.prog 14 #[.pointer r_2, .string (Bs ([98] : Str))] w9 [] (fun v w23 => ∃ (r_0_21_ID : Int) (r_0_21_Name : Str) (r_0_21_Attrs : Sl) (r_1_22 : Bool), v = .tuple #[.agg #[.int .i64 r_0_21_ID, .string (Bs r_0_21_Name), Sl.v r_0_21_Attrs], .bool r_1_22] ∧
∀ (w26 : World) (B_24 : Nat), New w23 B_24 w26 → Chg [] w23 w26 →
CallK Tryd.prog 13 #[.pointer r_2] w26 [B_24] (fun v w29 => ∃ (r_28 : Int), v = .int .i64 r_28 ∧
∃ (r_30 : Int), (((((r_28 = 3) ∧ (r_1_22 = true)) ∧ (r_0_21_ID = 4))) → Calls Tryd.prog 10 #[.pointer r_2, .int .i64 1] w29 (Ret fun v w' => Ext w29 w' ∧ v = .int .i64 r_30)) ∧
(∀ w31 : World, Ext w29 w31 →
R (.bool ((((decide (r_28 = 3)) && r_1_22) && (decide (r_0_21_ID = 4))) && (decide (r_30 = (-1))))) w31)))))))
set_option maxHeartbeats 1000000 in
set_option maxRecDepth 10000 in
theorem law13_awake.ok  {R : Value → World → Prop} {w : World} (ht0 : law13_awake.vc  R w) : Calls Tryd.prog 11 #[] w (Ret R) := by
  refine go _ Tryd.func11 Tryd.ntmps11 ht0 ?_
  refine gS <| gR <| gN <| ge <| tn <| gS <| gR ?_
  refine gC [] Tryd.func6 fun _ w3 => gE fun r_2 => gQ ?_
  refine gN <| ge <| tn <| gS <| gS <| gR ?_
  refine gM ?_
  refine g2 (fun hx0 hx1 => r_pnil (o := r_2) hx0 hx1 Tryd.underlying23) <| ge <| tn ?_
  refine gi id id ?_ ?_
  · refine gS <| gR <| gN <| ge <| tn <| gr <| tr ?_
    exact gz1
  · refine gk <| tn <| gS <| gS <| gR <| gN <| ge <| tn <| gb <| gE fun _ => gE fun mu => ?_
    refine l1 mu (fun i_8 => [(2, .int .i64 i_8)]) [(1, _)] (fun _ => []) [] [] fun i_8 w9 _ => gS <| gS <| gR ?_
    refine gM ?_
    refine g2 r_leq <| ge <| tn ?_
    refine gi dT dF ?_ ?_
    · refine gk <| tn <| gS <| gb <| gR <| gM ?_
      refine gM ?_
      refine gbu ti_31 Tryd.underlying31 pl_31 (OPs.of rfl) ?_
      refine gC [] Tryd.func9 fun _ w17 => gQ <| ge <| bn <| tn <| gR ?_
      refine gM ?_
      refine g2s r_addI ?_
      refine gN <| ge ?_
      exact k1 []
    · refine gx <| te <| te <| bh <| tn <| gS <| gR <| gM ?_
      refine gC [] Tryd.func14 fun _ w23 => gE fun r_0_21_ID => gE fun r_0_21_Name => gE fun r_0_21_Attrs => gE fun r_1_22 => gQ ?_
      refine gM ?_
      refine gx1 ?_
      refine gx1 ?_
      refine na ti_31 fun w25 B_24 => ?_
      refine wn 0 0 ti_31 fun w26 => ?_
      refine gN <| ge <| tn <| gS <| gR ?_
      refine gM <| gT1 ?_
      refine gC [0] Tryd.func13 fun _ w29 => gE fun r_28 => gQ ?_
      refine g2 r_eql ?_
      refine gM ?_
      refine G1 r_move ?_
      refine gpa ?_
      refine gM ?_
      refine GF 0 Tryd.underlying31 ti_3 ?_
      refine GB 0 Tryd.underlying3 ?_
      refine G2 r_eql ?_
      refine gpa ?_
      refine gM ?_
      refine G1 r_move ?_
      refine gE fun r_30 => GC Tryd.func10 (fun hg => ⟨⟨(dT (aT (aT (g_t hg)).1).1), (aT (aT (g_t hg)).1).2⟩, (dT (aT (g_t hg)).2)⟩) fun w31 => ?_
      refine G2 r_eql ?_
      refine gpa ?_
      refine gN <| ge <| tn <| gr ?_
      exact gz1

end Go.Proofs.YtcploacnonngaaaDoor
