/-
  PRINTED BY PROGRAM: for each function its condition (vc), and that this suffices (ok).
-/
import Derived.Test.YtcploacnonngaaaDoorQFormatClearsGT
namespace Go.Proofs.YtcploacnonngaaaDoor
open Go.RowKit
set_option linter.unusedVariables false

/-- The condition of topiary/topiarylaw13.FormatClears. -/
def law13_FormatClears.vc (a_1 : Sl) (b_2 : Sl) (R : Value → World → Prop) (w : World) : Prop :=
CallK Tryd.prog 6 #[] w [] (fun v w5 => ∃ (r_4 : Option Addr), v = .pointer r_4 ∧
(((Option.isNone r_4) = true) →
R (.bool false) w5) ∧
(((Option.isNone r_4) = false) →
∃ (J_13 : Int → World → Prop) (mu_14 : Int → World → Nat),
J_13 0 w5 ∧
(∀ (i_11 : Int) (w12 : World), J_13 i_11 w12 →
(((i_11 < (a_1.n : Int)) ∧ (i_11 < 10)) →
(I64 (1 + i_11)) ∧
CallK Tryd.prog 12 #[.int .i64 i_11] w12 [] (fun v w23 => ∃ (r_22 : Str), v = .string (Bs r_22) ∧
CallK Tryd.prog 9 #[.pointer r_4, .agg #[.int .i64 (1 + i_11), .string (Bs r_22), Sl.v Sl.nil]] w23 [] (fun v w24 => v = .tuple #[] ∧
(I64 (i_11 + 1)) ∧
J_13 (i_11 + 1) w24 ∧ mu_14 (i_11 + 1) w24 < mu_14 i_11 w12))) ∧
(((¬ (i_11 < (a_1.n : Int))) ∨ (¬ (i_11 < 10))) →
CallK Tryd.prog 13 #[.pointer r_4] w12 [] (fun v w29 => ∃ (r_28 : Int), v = .int .i64 r_28 ∧
CallK Tryd.prog 8 #[.pointer r_4] w29 [] (fun v w31 => v = .tuple #[] ∧
∃ (J_36 : Int → World → Prop) (mu_37 : Int → World → Nat),
J_36 0 w31 ∧
(∀ (i_34 : Int) (w35 : World), J_36 i_34 w35 →
(((i_34 < (b_2.n : Int)) ∧ (i_34 < 10)) →
(I64 (100 + i_34)) ∧
((0 : Int) ≤ i_34 ∧ i_34 < (b_2.n : Int)) ∧ ∃ p_70 : Addr, b_2.a = some p_70 ∧
∃ (x_71 : Int), (w35.cell? (p_70.add (i_34.toNat * 1)) = some (.int .i64 x_71)) ∧
CallK Tryd.prog 12 #[.int .i64 x_71] w35 [] (fun v w73 => ∃ (r_72 : Str), v = .string (Bs r_72) ∧
CallK Tryd.prog 9 #[.pointer r_4, .agg #[.int .i64 (100 + i_34), .string (Bs r_72), Sl.v Sl.nil]] w73 [] (fun v w74 => v = .tuple #[] ∧
((0 : Int) ≤ i_34 ∧ i_34 < (b_2.n : Int)) ∧ ∃ p_76 : Addr, b_2.a = some p_76 ∧
∃ (x_77 : Int), (w74.cell? (p_76.add (i_34.toNat * 1)) = some (.int .i64 x_77)) ∧
CallK Tryd.prog 12 #[.int .i64 (IntKind.i64.wrap (x_77 + 1))] w74 [] (fun v w79 => ∃ (r_78 : Str), v = .string (Bs r_78) ∧
CallK Tryd.prog 14 #[.pointer r_4, .string (Bs r_78)] w79 [] (fun v w82 => ∃ (r_0_80_ID : Int) (r_0_80_Name : Str) (r_0_80_Attrs : Sl) (r_1_81 : Bool), v = .tuple #[.agg #[.int .i64 r_0_80_ID, .string (Bs r_0_80_Name), Sl.v r_0_80_Attrs], .bool r_1_81] ∧
∀ (w87 : World) (B_83 : Nat), New w82 B_83 w87 → Chg [] w82 w87 →
(I64 (i_34 + 1)) ∧
((0 : Int) ≤ i_34 + 1 ∧ i_34 + 1 ≤ (b_2.c : Int)) ∧
∃ p_90 : Addr, (((0 : Int) ≤ i_34 ∧ i_34 < (b_2.n : Int)) ∧ b_2.a = some p_90) ∧
∃ (x_92 : Int), (w87.cell? (p_90.add (i_34.toNat * 1)) = some (.int .i64 x_92)) ∧
∃ (r_94 : Bool), (∀ w' : World, Ext w87 w' → Calls Tryd.prog 15 #[Sl.v (Sl.cut b_2 1 0 (i_34 + 1).toNat b_2.c), .int .i64 (IntKind.i64.wrap (x_92 + 1))] w' (Ret fun v w'' => Ext w' w'' ∧ v = .bool r_94)) ∧
(((r_1_81 == r_94) = false) →
∀ (w96 : World), Chg [] w87 w96 →
R (.bool false) w96) ∧
(((r_1_81 == r_94) = true) →
(I64 (i_34 + 1)) ∧
∀ (w96 : World), Chg [] w87 w96 →
J_36 (i_34 + 1) w96 ∧ mu_37 (i_34 + 1) w96 < mu_37 i_34 w35)))))) ∧
(((¬ (i_34 < (b_2.n : Int))) ∨ (¬ (i_34 < 10))) →
CallK Tryd.prog 16 #[.pointer r_4] w35 [] (fun v w101 => v = .tuple #[] ∧
CallK Tryd.prog 13 #[.pointer r_4] w101 [] (fun v w104 => ∃ (r_103 : Int), v = .int .i64 r_103 ∧
∃ (r_105 : Int), (((r_103 = r_28)) → Calls Tryd.prog 10 #[.pointer r_4, .int .i64 100] w104 (Ret fun v w' => Ext w104 w' ∧ v = .int .i64 r_105)) ∧
(∀ w106 : World, Ext w104 w106 →
∃ (r_107 : Int), ((((r_103 = r_28) ∧ (r_105 = (-1))) ∧ (¬ (r_28 = 0))) → Calls Tryd.prog 10 #[.pointer r_4, .int .i64 1] w106 (Ret fun v w' => Ext w106 w' ∧ v = .int .i64 r_107)) ∧
(∀ w108 : World, Ext w106 w108 →
∃ (r_109 : Bool), (((((r_103 = r_28) ∧ (r_105 = (-1))) ∧ ((r_28 = 0) ∨ (r_107 = 0)))) → Calls Tryd.prog 11 #[] w108 (Ret fun v w' => Ext w108 w' ∧ v = .bool r_109)) ∧
(∀ w110 : World, Ext w108 w110 →
R (.bool ((((decide (r_103 = r_28)) && (decide (r_105 = (-1)))) && ((decide (r_28 = 0)) || (decide (r_107 = 0)))) && r_109)) w110)))))))))))))
set_option maxHeartbeats 1000000 in
set_option maxRecDepth 10000 in
theorem law13_FormatClears.ok (a_1 : Sl) (b_2 : Sl) {R : Value → World → Prop} {w : World} (ht0 : law13_FormatClears.vc a_1 b_2 R w) : Calls Tryd.prog 4 #[Sl.v a_1, Sl.v b_2] w (Ret R) := by
  refine go _ Tryd.func4 Tryd.ntmps4 ht0 ?_
  refine gS <| gR <| gN <| ge <| tn <| gS <| gR ?_
  refine gC [] Tryd.func6 fun _ w5 => gE fun r_4 => gQ ?_
  refine gN <| ge <| tn <| gS <| gS <| gR ?_
  refine gM ?_
  refine g2 (fun hx0 hx1 => r_pnil (o := r_4) hx0 hx1 Tryd.underlying23) <| ge <| tn ?_
  refine gi id id ?_ ?_
  · refine gS <| gR <| gN <| ge <| tn <| gr <| tr ?_
    exact gz1
  · refine gk <| tn <| gS <| gR <| gN <| ge <| tn <| gS <| gS <| gR ?_
    refine gN <| ge <| tn <| gb <| gE fun _ => gE fun mu => ?_
    refine l1 mu (fun i_11 => [(7, .int .i64 i_11)]) [(0, _), (1, _), (5, _), (6, _)] (fun _ => []) [] [] fun i_11 w12 _ => gS <| gS <| gR ?_
    refine gM ?_
    refine gM ?_
    refine g1 (fun hx0 => r_len hx0 Tryd.underlying22) ?_
    refine g2 r_lss ?_
    refine gM ?_
    refine G1 r_move ?_
    refine G2 r_lss ?_
    refine gpa <| ge <| tn ?_
    refine gi (fun h => ⟨(dT (aT h).1), (dT (aT h).2)⟩) (fun h => ((aF h).imp (fun h => (dF h)) (fun h => (dF h)))) ?_ ?_
    · refine gk <| tn <| gS <| gb <| gR <| gM ?_
      refine gM ?_
      refine g2s r_addI ?_
      refine gM ?_
      refine gM ?_
      refine gCv [] Tryd.func12 fun _ w23 => gE fun r_22 => gQ ?_
      refine gbu ti_31 Tryd.underlying31 pl_31 (OPs.of rfl) ?_
      refine gC [] Tryd.func9 fun _ w24 => gQ <| ge <| bn <| tn <| gR ?_
      refine gM ?_
      refine g2s r_addI ?_
      refine gN <| ge ?_
      exact k1 []
    · refine gx <| te <| te <| bh <| tn <| gS <| gR <| gM ?_
      refine gC [] Tryd.func13 fun _ w29 => gE fun r_28 => gQ ?_
      refine gN <| ge <| tn <| gS <| gR ?_
      refine gM ?_
      refine gC [] Tryd.func8 fun _ w31 => gQ <| ge <| tn <| gS <| gS <| gR ?_
      refine gN <| ge <| tn <| gb <| gE fun _ => gE fun mu => ?_
      refine l1 mu (fun i_34 => [(9, .int .i64 i_34)]) [(1, _), (5, _), (6, _), (8, _)] (fun _ => []) [] [] fun i_34 w35 _ => gS <| gS <| gR ?_
      refine gM ?_
      refine gM ?_
      refine g1 (fun hx0 => r_len hx0 Tryd.underlying22) ?_
      refine g2 r_lss ?_
      refine gM ?_
      refine G1 r_move ?_
      refine G2 r_lss ?_
      refine gpa <| ge <| tn ?_
      refine gi (fun h => ⟨(dT (aT h).1), (dT (aT h).2)⟩) (fun h => ((aF h).imp (fun h => (dF h)) (fun h => (dF h)))) ?_ ?_
      · refine gk <| tn <| gS <| gb <| gS <| gR <| gM ?_
        refine gM ?_
        refine g2s r_addI ?_
        refine gM ?_
        refine gM ?_
        refine gM ?_
        refine gI1 Tryd.underlying22 ti_3 fun p_70 => ?_
        refine gE fun x_71 => gL Tryd.underlying3 ?_
        refine gCv [] Tryd.func12 fun _ w73 => gE fun r_72 => gQ ?_
        refine gbu ti_31 Tryd.underlying31 pl_31 (OPs.of rfl) ?_
        refine gC [] Tryd.func9 fun _ w74 => gQ <| ge <| tn <| gS <| gR ?_
        refine gM ?_
        refine gM ?_
        refine gM ?_
        refine gM ?_
        refine gI1 Tryd.underlying22 ti_3 fun p_76 => ?_
        refine gE fun x_77 => gL Tryd.underlying3 ?_
        refine g2 r_add ?_
        refine gCv [] Tryd.func12 fun _ w79 => gE fun r_78 => gQ ?_
        refine gC [] Tryd.func14 fun _ w82 => gE fun r_0_80_ID => gE fun r_0_80_Name => gE fun r_0_80_Attrs => gE fun r_1_81 => gQ ?_
        refine gM ?_
        refine gx1 ?_
        refine gx1 ?_
        refine na ti_31 fun w84 B_83 => ?_
        refine wn 0 0 ti_31 fun w85 => ?_
        refine gN <| ge <| tn <| gS ?_
        refine gD fun w87 => gT1 <| gA fun hS88 => gA fun hS89 => gE fun p_90 => gA fun hp91 => gE fun x_92 => gA fun hx93 => gE fun r_94 => gA fun hc95 => ?_
        refine gW 0 12 [(10, rsU (.bool r_94))] ?_
        refine gM ?_
        refine gM ?_
        refine gM ?_
        refine gP hS88 <| g2s r_addI ?_
        refine gP hS89 <| g2s (fun hx0 hx1 h => r_sliceH hx0 hx1 Tryd.underlying22 ti_3 h) ?_
        refine gM ?_
        refine gM ?_
        refine gIx Tryd.underlying22 ti_3 hp91 ?_
        refine gP hx93 <| gL Tryd.underlying3 ?_
        refine g2 r_add ?_
        refine yc rfl Tryd.func15 (fun w' hE _ => hc95 w' hE) (fun _ _ h => ⟨(), h, trivial⟩) fun _ => ?_
        refine g2 (fun hx0 hx1 => r_bneq hx0 hx1 Tryd.underlying4) ?_
        refine eT fun w96 => ?_
        refine gZ <| tn ?_
        refine gi nT nF ?_ ?_
        · refine gS <| gR <| gN <| ge <| tn <| gr <| br <| tr <| tr <| br <| tr <| gT0 ?_
          exact gz1
        · refine gk <| bn <| tn <| gR <| gM ?_
          refine g2s r_addI ?_
          refine gN <| ge <| gT0 ?_
          exact k1 []
      · refine gx <| te <| te <| bh <| tn <| gS <| gR <| gM ?_
        refine gC [] Tryd.func16 fun _ w101 => gQ <| ge <| tn <| gS <| gR ?_
        refine gM ?_
        refine gC [] Tryd.func13 fun _ w104 => gE fun r_103 => gQ ?_
        refine gM ?_
        refine g2 r_eql ?_
        refine gM ?_
        refine G1 r_move ?_
        refine gE fun r_105 => GC Tryd.func10 (fun hg => (dT (g_t hg))) fun w106 => ?_
        refine G2 r_eql ?_
        refine gpa ?_
        refine gM ?_
        refine G1 r_move ?_
        refine G2 r_eql ?_
        refine G1 r_move ?_
        refine G1 r_move ?_
        refine gE fun r_107 => GC Tryd.func10 (fun hg => ⟨⟨(dT (aT (g_t (g_up hg))).1), (dT (aT (g_t (g_up hg))).2)⟩, (dF (g_f hg))⟩) fun w108 => ?_
        refine G2 r_eql ?_
        refine Gpo ?_
        refine gpa ?_
        refine gM ?_
        refine gE fun r_109 => GC Tryd.func11 (fun hg => ⟨⟨(dT (aT (aT (g_t hg)).1).1), (dT (aT (aT (g_t hg)).1).2)⟩, ((oT (aT (g_t hg)).2).imp (fun h => (dT h)) (fun h => (dT h)))⟩) fun w110 => ?_
        refine gpa ?_
        refine gN <| ge <| tn <| gr ?_
        exact gz1

/-- The condition of topiary/topiarylaw13.FormatClears.1. -/
def law13_FormatClears_1.vc (v_1 : Int) (R : Value → World → Prop) (w : World) : Prop :=
CallK Tryd.prog 7 #[.int .i64 v_1, .int .i64 10] w [] (fun v w4 => ∃ (r_3 : Int), v = .int .i64 r_3 ∧
CallK Tryd.prog 7 #[.int .i64 v_1, .int .i64 10] w4 [] (fun v w6 => ∃ (r_5 : Int), v = .int .i64 r_5 ∧
(I64 (r_5 + 1)) ∧
((0 : Int) ≤ r_3 ∧ (r_3 : Int) ≤ r_5 + 1 ∧ r_5 + 1 ≤ (([97, 98, 99, 100, 101, 102, 103, 104, 105, 106] : Str).length : Int)) ∧
R (.string (Bs ((List.drop r_3.toNat ([97, 98, 99, 100, 101, 102, 103, 104, 105, 106] : Str)).take ((r_5 + 1).toNat - r_3.toNat)))) w6))
set_option maxHeartbeats 1000000 in
set_option maxRecDepth 10000 in
theorem law13_FormatClears_1.ok (v_1 : Int) {R : Value → World → Prop} {w : World} (ht0 : law13_FormatClears_1.vc v_1 R w) : Calls Tryd.prog 12 #[.int .i64 v_1] w (Ret R) := by
  refine go _ Tryd.func12 Tryd.ntmps12 ht0 ?_
  refine gS <| gR <| gN <| ge <| tn <| gS <| gR ?_
  refine gM ?_
  refine gC [] Tryd.func7 fun _ w4 => gE fun r_3 => gQ ?_
  refine gM ?_
  refine gC [] Tryd.func7 fun _ w6 => gE fun r_5 => gQ ?_
  refine g2s r_addI ?_
  refine g3s (fun hx0 hx1 hx2 h => r_sslice2 hx0 hx1 hx2 Tryd.underlying9 h) ?_
  refine gN <| ge <| tn <| gr ?_
  exact gz1

end Go.Proofs.YtcploacnonngaaaDoor
