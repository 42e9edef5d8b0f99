/-
  PRINTED BY PROGRAM: for each function its condition (vc), and that this suffices (ok).
-/
import Derived.Test.YteohbfaechfliaaQSlotsTurnedGT
namespace Go.Proofs.Yteohbfaechfliaa
open Go.RowKit
set_option linter.unusedVariables false
set_option maxHeartbeats 1000000
set_option maxRecDepth 10000
def slices_Equal__int_int_.vc (c : Sl) (d : Sl) (R : Value → World → Prop) (w : World) : Prop :=
(((c.n : Int) ≠ (d.n : Int)) →
R (.bool false) w) ∧
((¬ ((c.n : Int) ≠ (d.n : Int))) →
∃ (l : Int → World → Prop) (p : Int → World → Nat),
l 0 w ∧
(∀ (b : Int) (h : World), l b h →
((b < (c.n : Int)) →
∀ (g : World), Chg [] h g →
∃ m : Addr, (((0 : Int) ≤ b ∧ b < (c.n : Int)) ∧ c.a = some m) ∧
∃ (j : Int), (g.cell? (m.add (b.toNat * 1)) = some (.int .i64 j)) ∧
∃ o : Addr, (((0 : Int) ≤ b ∧ b < (d.n : Int)) ∧ d.a = some o) ∧
∃ (k : Int), (g.cell? (o.add (b.toNat * 1)) = some (.int .i64 k)) ∧
((j ≠ k) →
∀ (f : World), Chg [] g f →
R (.bool false) f) ∧
((¬ (j ≠ k)) →
(I64 (b + 1)) ∧
∀ (f : World), Chg [] g f →
l (b + 1) f ∧ p (b + 1) f < p b h)) ∧
((¬ (b < (c.n : Int))) →
R (.bool true) h)))
theorem slices_Equal__int_int_.ok (c : Sl) (d : Sl) {R : Value → World → Prop} {w : World} (q : slices_Equal__int_int_.vc c d R w) : Calls Try.prog 40 #[Sl.v c, Sl.v d] w (Ret R) := by
 refine go _ Try.func40 Try.ntmps40 q ?_
 refine gS <| gR <| gN <| ge <| tn <| gS <| gS <| gR ?_
 refine gM ?_
 refine g1 (fun i => r_len i tU22) ?_
 refine gM ?_
 refine g1 (fun i => r_len i tU22) ?_
 refine g2 r_neq <| ge <| tn ?_
 refine gi dT dF ?_ ?_
 ·refine gS <| gR <| gN <| ge <| tn <| gr <| tr ?_
  exact gz1
 ·refine gk <| tn <| gS <| gS <| gR <| gM ?_
  refine g1 (fun i => r_len i tU22) ?_
  refine gM <| ge <| tn <| gb <| gE fun _ => gE fun mu => ?_
  refine l1 mu (fun b => [(13, .int .i64 b)]) [(0, _), (1, _), (12, _)] (fun _ => []) [] [] fun b h _ => gS <| gR ?_
  refine g2 r_lss <| ge <| tn <| gS ?_
  refine gi dT dF ?_ ?_
  ·refine gk <| tn <| gS <| gb <| gS <| gR <| gM ?_
   refine gN <| ge <| tn <| gS ?_
   refine gD fun g => gT0 ?_
   refine gW 0 9 [] ?_
   refine gM ?_
   refine gM ?_
   refine gI2 tU22 ti_3 fun m => ?_
   refine gE fun j => gL tU3 ?_
   refine gM ?_
   refine gM ?_
   refine gI2 tU22 ti_3 fun o => ?_
   refine gE fun k => gL tU3 ?_
   refine g2 r_neq <| geT fun f => ?_
   refine gZ <| tn ?_
   refine gi dT dF ?_ ?_
   ·refine gS <| gR <| gN <| ge <| tn <| gr <| br <| tr <| tr <| br <| tr <| gT0 ?_
    exact gz1
   ·refine gk <| bn <| tn <| gR <| g2s r_addI ?_
    refine gM <| ge <| gT0 ?_
    exact k1 []
  ·refine gx <| te <| te <| bh <| tn <| gS <| gR <| gN <| ge <| tn <| gr ?_
   exact gz1
def slices_Clone__api_Attr_api_Attr_.vc (b : Sl) (R : Value → World → Prop) (w : World) : Prop :=
((b.a.isNone = true) →
R (Sl.v Sl.nil) w) ∧
((b.a.isNone = false) →
∀ (c : World) (d : Nat), New w d c → Chg [] w c →
∀ (_ : Box c d 47 []),
RunK Try.prog (Builtin.append_ #[23, 23] 23 #[Sl.v (Sl.mk (some ⟨d, 0, none⟩) 0 0), Sl.v b]) c [] (fun v g => ∃ (f : Sl), v = Sl.v f ∧
R (Sl.v f) g))
theorem slices_Clone__api_Attr_api_Attr_.ok (b : Sl) {R : Value → World → Prop} {w : World} (h : slices_Clone__api_Attr_api_Attr_.vc b R w) : Calls Try.prog 64 #[Sl.v b] w (Ret R) := by
 refine go _ Try.func64 Try.ntmps64 h ?_
 refine gS <| gR <| gN <| ge <| tn <| gS <| gS <| gR ?_
 refine gM ?_
 refine g2 (fun i j => r_slnil i j tU23) <| ge <| tn ?_
 refine gi id id ?_ ?_
 ·refine gS <| gR <| gN <| ge <| tn <| gr <| tr ?_
  exact gz1
 ·refine gk <| tn <| gS <| gR <| gn (cs := []) (fun B => .slice (some ⟨B, 0, none⟩) 0 0) (fun _ _ => r_buildSlice0 tU23 ti_47) fun c d => ?_
  refine gM <| gT1 ?_
  refine gX 0 ?_
  refine gR2 [] r_append fun _ g => gE fun f => gQ ?_
  refine gN <| ge <| tn <| gr ?_
  exact gz1
end Go.Proofs.Yteohbfaechfliaa
