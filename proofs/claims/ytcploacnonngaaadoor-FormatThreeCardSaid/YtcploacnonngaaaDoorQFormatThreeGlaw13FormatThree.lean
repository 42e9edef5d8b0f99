/-
  PRINTED BY PROGRAM: for each function its condition (vc), and that this suffices (ok).
-/
import Derived.Test.YtcploacnonngaaaDoorQFormatThreeGT
namespace Go.Proofs.YtcploacnonngaaaDoor
open Go.RowKit
set_option linter.unusedVariables false

/-- The condition of topiary/topiarylaw13.FormatThree. -/
def law13_FormatThree.vc (n_1 : Int) (marks_2 : Sl) (R : Value → World → Prop) (w : World) : Prop :=
CallK Tryd.prog 6 #[] w [] (fun v w5 => ∃ (r_4 : Option Addr), v = .pointer r_4 ∧
(((Option.isNone r_4) = true) →
R (.bool false) w5) ∧
(((Option.isNone r_4) = false) →
CallK Tryd.prog 7 #[.int .i64 n_1, .int .i64 30] w5 [] (fun v w10 => ∃ (r_9 : Int), v = .int .i64 r_9 ∧
∃ (J_17 : Int → Int → World → Prop) (mu_18 : Int → Int → World → Nat),
J_17 0 1 w10 ∧
(∀ (run_14 : Int) (i_15 : Int) (w16 : World), J_17 run_14 i_15 w16 →
((i_15 ≤ r_9) →
∃ (J_79 : Int → Int → World → Prop) (mu_80 : Int → Int → World → Nat),
J_79 run_14 0 w16 ∧
(∀ (run_76 : Int) (j_77 : Int) (w78 : World), J_79 run_76 j_77 w78 →
(((j_77 < (marks_2.n : Int)) ∧ (j_77 < 5)) →
((0 : Int) ≤ j_77 ∧ j_77 < (marks_2.n : Int)) ∧ ∃ p_93 : Addr, marks_2.a = some p_93 ∧
∃ (x_94 : Int), (w78.cell? (p_93.add (j_77.toNat * 1)) = some (.int .i64 x_94)) ∧
CallK Tryd.prog 7 #[.int .i64 x_94, .int .i64 30] w78 [] (fun v w96 => ∃ (r_95 : Int), v = .int .i64 r_95 ∧
((r_95 = i_15) →
CallK Tryd.prog 8 #[.pointer r_4] w96 [] (fun v w98 => v = .tuple #[] ∧
(I64 (j_77 + 1)) ∧
J_79 0 (j_77 + 1) w98 ∧ mu_80 0 (j_77 + 1) w98 < mu_80 run_76 j_77 w78)) ∧
((¬ (r_95 = i_15)) →
(I64 (j_77 + 1)) ∧
J_79 run_76 (j_77 + 1) w96 ∧ mu_80 run_76 (j_77 + 1) w96 < mu_80 run_76 j_77 w78))) ∧
(((¬ (j_77 < (marks_2.n : Int))) ∨ (¬ (j_77 < 5))) →
∀ (w105 : World) (B_104 : Nat), New w78 B_104 w105 → Chg [] w78 w105 →
∀ (_ : Box w105 B_104 28 [.string (Bs ([99] : Str)), .string (Bs ([100] : Str))]),
CallK Tryd.prog 9 #[.pointer r_4, .agg #[.int .i64 i_15, .string (Bs ([105] : Str)), Sl.v (Sl.mk (some ⟨B_104, 0, none⟩) 1 1)]] w105 [] (fun v w107 => v = .tuple #[] ∧
(I64 (run_76 + 1)) ∧
∃ (J_113 : Int → World → Prop) (mu_114 : Int → World → Nat),
J_113 0 w107 ∧
(∀ (j_111 : Int) (w112 : World), J_113 j_111 w112 →
((j_111 < (run_76 + 1)) →
(I64 (i_15 - j_111)) ∧
CallK Tryd.prog 10 #[.pointer r_4, .int .i64 (i_15 - j_111)] w112 [] (fun v w123 => ∃ (r_122 : Int), v = .int .i64 r_122 ∧
((((decide (0 ≤ r_122)) == (decide (j_111 < 3))) = false) →
R (.bool false) w123) ∧
((((decide (0 ≤ r_122)) == (decide (j_111 < 3))) = true) →
(I64 (j_111 + 1)) ∧
J_113 (j_111 + 1) w123 ∧ mu_114 (j_111 + 1) w123 < mu_114 j_111 w112))) ∧
((¬ (j_111 < (run_76 + 1))) →
(I64 (i_15 + 1)) ∧
J_17 (run_76 + 1) (i_15 + 1) w112 ∧ mu_18 (run_76 + 1) (i_15 + 1) w112 < mu_18 run_14 i_15 w16)))))) ∧
((¬ (i_15 ≤ r_9)) →
CallK Tryd.prog 11 #[] w16 [] (fun v w131 => ∃ (r_130 : Bool), v = .bool r_130 ∧
R (.bool r_130) w131))))))
set_option maxHeartbeats 1000000 in
set_option maxRecDepth 10000 in
theorem law13_FormatThree.ok (n_1 : Int) (marks_2 : Sl) {R : Value → World → Prop} {w : World} (ht0 : law13_FormatThree.vc n_1 marks_2 R w) : Calls Tryd.prog 3 #[.int .i64 n_1, Sl.v marks_2] w (Ret R) := by
  refine go _ Tryd.func3 Tryd.ntmps3 ht0 ?_
  refine gS <| gR <| gN <| ge <| tn <| gS <| gR ?_
  refine gC [] Tryd.func6 fun _ w5 => gE fun r_4 => gQ ?_
  refine gN <| ge <| tn <| gS <| gS <| gR ?_
  refine gM ?_
  refine g2 (fun hx0 hx1 => r_pnil (o := r_4) hx0 hx1 Tryd.underlying23) <| ge <| tn ?_
  refine gi id id ?_ ?_
  · refine gS <| gR <| gN <| ge <| tn <| gr <| tr ?_
    exact gz1
  · refine gk <| tn <| gS <| gR <| gM ?_
    refine gC [] Tryd.func7 fun _ w10 => gE fun r_9 => gQ ?_
    refine gN <| ge <| tn <| gS <| gR ?_
    refine gN <| ge <| tn <| gS <| gS <| gR ?_
    refine gN <| ge <| tn <| gb <| gE fun _ => gE fun mu => ?_
    refine l2 mu (fun run_14 i_15 => [(7, .int .i64 run_14), (8, .int .i64 i_15)]) [(1, _), (5, _), (6, _)] (fun _ _ => []) [] [] fun run_14 i_15 w16 _ => gS <| gS <| gR ?_
    refine gM ?_
    refine gM ?_
    refine g2 r_leq <| ge <| tn ?_
    refine gi dT dF ?_ ?_
    · refine gk <| tn <| gS <| gb <| gS <| gS <| gR <| gN <| ge <| tn <| gb <| gE fun _ => gE fun mu => ?_
      refine l2 mu (fun run_76 j_77 => [(7, .int .i64 run_76), (9, .int .i64 j_77)]) [(1, _), (5, _), (6, _), (8, _)] (fun _ _ => []) [] [] fun run_76 j_77 w78 _ => gS <| gS <| gR ?_
      refine gM ?_
      refine gM ?_
      refine g1 (fun hx0 => r_len hx0 Tryd.underlying22) ?_
      refine g2 r_lss ?_
      refine gM ?_
      refine G1 r_move ?_
      refine G2 r_lss ?_
      refine gpa <| ge <| tn ?_
      refine gi (fun h => ⟨(dT (aT h).1), (dT (aT h).2)⟩) (fun h => ((aF h).imp (fun h => (dF h)) (fun h => (dF h)))) ?_ ?_
      · refine gk <| tn <| gS <| gb <| gS <| gR <| gM ?_
        refine gM ?_
        refine gI1 Tryd.underlying22 ti_3 fun p_93 => ?_
        refine gE fun x_94 => gL Tryd.underlying3 ?_
        refine gC [] Tryd.func7 fun _ w96 => gE fun r_95 => gQ ?_
        refine gM ?_
        refine g2 r_eql <| ge <| tn ?_
        refine gi dT dF ?_ ?_
        · refine gS <| gR <| gM ?_
          refine gC [] Tryd.func8 fun _ w98 => gQ <| ge <| tn <| gR ?_
          refine gN <| ge <| bn <| tn <| gR ?_
          refine gM ?_
          refine g2s r_addI ?_
          refine gN <| ge ?_
          exact k2 []
        · refine gk <| bn <| tn <| gR <| gM ?_
          refine g2s r_addI ?_
          refine gN <| ge ?_
          exact k2 []
      · refine gx <| te <| te <| bh <| tn <| gS <| gR <| gM ?_
        refine gM ?_
        refine gbu ti_28 Tryd.underlying28 pl_28 (OPs.of rfl) ?_
        refine ns [.string (Bs ([99] : Str)), .string (Bs ([100] : Str))] Tryd.underlying29 ti_28 fun w105 B_104 => ?_
        refine gbu ti_31 Tryd.underlying31 pl_31 (OPs.of rfl) <| gT1 ?_
        refine gX 0 ?_
        refine gC [] Tryd.func9 fun _ w107 => gQ <| ge <| tn <| gS <| gR ?_
        refine gM ?_
        refine g2s r_addI ?_
        refine gN <| ge <| tn <| gS <| gR ?_
        refine gN <| ge <| tn <| gb <| gE fun _ => gE fun mu => ?_
        refine l1 mu (fun j_111 => [(10, .int .i64 j_111)]) [(1, _), (5, _), (6, _), (7, _), (8, _)] (fun _ => []) [] [] fun j_111 w112 _ => gS <| gS <| gR ?_
        refine gM ?_
        refine gM ?_
        refine g2 r_lss <| ge <| tn ?_
        refine gi dT dF ?_ ?_
        · refine gk <| tn <| gS <| gb <| gS <| gR <| gM ?_
          refine gM ?_
          refine gM ?_
          refine g2s r_subI ?_
          refine gC [] Tryd.func10 fun _ w123 => gE fun r_122 => gQ ?_
          refine g2 r_geq ?_
          refine gM ?_
          refine g2 r_lss ?_
          refine g2 (fun hx0 hx1 => r_bneq hx0 hx1 Tryd.underlying4) <| ge <| tn ?_
          refine gi nT nF ?_ ?_
          · refine gS <| gR <| gN <| ge <| tn <| gr <| br <| tr <| tr <| br <| br <| tr <| tr <| br <| tr ?_
            exact gz1
          · refine gk <| bn <| tn <| gR <| gM ?_
            refine g2s r_addI ?_
            refine gN <| ge ?_
            exact k1 []
        · refine gx <| te <| te <| bh <| bn <| tn <| gR <| gM ?_
          refine g2s r_addI ?_
          refine gN <| ge ?_
          exact k2 []
    · refine gx <| te <| te <| bh <| tn <| gS <| gR <| gC [] Tryd.func11 fun _ w131 => gE fun r_130 => gQ ?_
      refine gN <| ge <| tn <| gr ?_
      exact gz1

end Go.Proofs.YtcploacnonngaaaDoor
