/-
  PRINTED BY PROGRAM: for each function its condition (vc), and that this suffices (ok).
-/
import Derived.Test.YtenokfdkckhhiaaGreatDoorQBuildNestsGT
namespace Go.Proofs.YtenokfdkckhhiaaGreatDoor
open Go.RowKit
set_option linter.unusedVariables false
set_option maxHeartbeats 1000000
set_option maxRecDepth 10000
def ref04_Clean.vc (b : Str) (R : Value → World → Prop) (w : World) : Prop :=
∃ (l : Str → Int → World → Prop) (k : Str → Int → World → Nat),
l ([] : Str) 0 w ∧
(∀ (d : Str) (a : Int) (g : World),l d a g →
((a < (b.length : Int)) →
CallK Tryz.prog 45 #[.string (Bs b),.int .i64 a] g [] (fun v i => ∃ (m : Int) (c : Int),v = .tuple #[.int .i32 m,.int .i64 c] ∧
(((¬ (c = 0))) → (0 : Int) ≤ a ∧ a < (b.length : Int)) ∧
(((c = 0) ∨ (((b.getD a.toNat 0).toNat : Int) = 0)) →
(List.length d + List.length ([239,191,189] : Str) ≤ 9223372036854775807) ∧
(I64 (a + 1)) ∧
l (d ++ ([239,191,189] : Str)) (a + 1) i ∧ k (d ++ ([239,191,189] : Str)) (a + 1) i < k d a g) ∧
(((¬ (c = 0)) ∧ (¬ (((b.getD a.toNat 0).toNat : Int) = 0))) →
((0 : Int) ≤ a ∧ a < (b.length : Int)) ∧
((((b.getD a.toNat 0).toNat : Int) = 13) →
(List.length d + List.length ([10] : Str) ≤ 9223372036854775807) ∧
(I64 (a + 1)) ∧
((((a + 1) < (b.length : Int))) → I64 (a + 1)) ∧
((((a + 1) < (b.length : Int))) → (0 : Int) ≤ a + 1 ∧ a + 1 < (b.length : Int)) ∧
(I64 (a + (bif ((decide ((a + 1) < (b.length : Int))) && (decide (((b.getD (a + 1).toNat 0).toNat : Int) = 10))) then 2 else c))) ∧
l (d ++ ([10] : Str)) (a + (bif ((decide ((a + 1) < (b.length : Int))) && (decide (((b.getD (a + 1).toNat 0).toNat : Int) = 10))) then 2 else c)) i ∧ k (d ++ ([10] : Str)) (a + (bif ((decide ((a + 1) < (b.length : Int))) && (decide (((b.getD (a + 1).toNat 0).toNat : Int) = 10))) then 2 else c)) i < k d a g) ∧
((¬ (((b.getD a.toNat 0).toNat : Int) = 13)) →
(I64 (a + c)) ∧
((0 : Int) ≤ a ∧ (a : Int) ≤ a + c ∧ a + c ≤ (b.length : Int)) ∧
(List.length d + List.length ((List.drop a.toNat b).take ((a + c).toNat - a.toNat)) ≤ 9223372036854775807) ∧
(I64 (a + c)) ∧
l (d ++ ((List.drop a.toNat b).take ((a + c).toNat - a.toNat))) (a + c) i ∧ k (d ++ ((List.drop a.toNat b).take ((a + c).toNat - a.toNat))) (a + c) i < k d a g)))) ∧
((¬ (a < (b.length : Int))) →
R (.string (Bs d)) g))
theorem ref04_Clean.ok (b : Str) {R : Value → World → Prop} {w : World} (n : ref04_Clean.vc b R w) : Calls Tryz.prog 28 #[.string (Bs b)] w (Ret R) := by
 refine go _ Tryz.func28 Tryz.ntmps28 n ?_
 refine gS <| gR <| gN <| ge <| tn <| gS <| gR ?_
 refine gN <| ge <| tn <| gS <| gS <| gR ?_
 refine gN <| ge <| tn <| gb <| gE fun _ => gE fun mu => ?_
 refine l2 mu (fun d a => [(3,.string (Bs d)),(4,.int .i64 a)]) [(0,_)] (fun _ _ => []) [] [] fun d a g _ => gS <| gS <| gR ?_
 refine gM ?_
 refine gM ?_
 refine g1 (fun f => r_slen f tU9) ?_
 refine g2 r_lss <| ge <| tn ?_
 refine gi dT dF ?_ ?_
 ·refine gk <| tn <| gb <| gS <| gR <| gM ?_
  refine gM ?_
  refine gC [] Tryz.func45 fun _ i => gE fun m => gE fun c => gQ ?_
  refine gM ?_
  refine gx1 ?_
  refine gx1 ?_
  refine gN ?_
  refine gN <| ge <| tn <| gS <| gb <| gS <| gR ?_
  refine gM ?_
  refine g2 r_eql ?_
  refine gM ?_
  refine G1 r_move ?_
  refine G1 r_move ?_
  refine G2s (fun f j h => r_sindex f j tU9 h) (fun hg => (dF (g_f hg))) ?_
  refine G2 r_eql ?_
  refine gpo ?_
  refine gN <| ge <| tn ?_
  refine gi (fun h => ((oT h).imp (fun h => (dT h)) (fun h => (dT h)))) (fun h => ⟨(dF (oF h).1),(dF (oF h).2)⟩) ?_ ?_
  ·refine gS <| gR <| gM ?_
   refine g2s r_sadd ?_
   refine gN <| ge <| tn <| gR ?_
   refine gN <| ge <| bn <| tn <| gR ?_
   refine gM ?_
   refine gM ?_
   refine g2s r_addI ?_
   refine gN <| ge <| bn ?_
   exact k2 []
  ·refine gS <| gR <| gM ?_
   refine gM ?_
   refine g2s (fun f j h => r_sindex f j tU9 h) ?_
   refine g2 r_eql ?_
   refine gN <| ge <| tn ?_
   refine gi dT dF ?_ ?_
   ·refine gS <| gR <| gM ?_
    refine g2s r_sadd ?_
    refine gN <| ge <| tn <| gS <| gR ?_
    refine gM ?_
    refine g2s r_addI ?_
    refine gM ?_
    refine g1 (fun f => r_slen f tU9) ?_
    refine g2 r_lss ?_
    refine gM ?_
    refine G1 r_move ?_
    refine G1 r_move ?_
    refine G2s r_addI (fun hg => (dT (g_t hg))) ?_
    refine G2s (fun f j h => r_sindex f j tU9 h) (fun hg => (dT (g_t hg))) ?_
    refine G2 r_eql ?_
    refine gpa <| ge <| tn ?_
    refine gp [(6,.int .i64 (bif ((decide ((a + 1) < (b.length : Int))) && (decide (((b.getD (a + 1).toNat 0).toNat : Int) = 10))) then 2 else c))] [(0,_),(3,_),(4,_)] (fun hc => ?_) (fun hc => ?_) ?_
    ·refine gR <| gN <| ge ?_
     exact gp' ⟨by rw [hc]; rfl,trivial⟩
    ·exact gk <| gp' ⟨by rw [hc]; rfl,trivial⟩
    ·refine bn <| tn <| gR <| gM ?_
     refine gM ?_
     refine g2s r_addI ?_
     refine gN <| ge <| bn ?_
     exact k2 []
   ·refine gR <| gM ?_
    refine gM ?_
    refine gM ?_
    refine gM ?_
    refine gM ?_
    refine g2s r_addI ?_
    refine g3s (fun f j o h => r_sslice2 f j o tU9 h) ?_
    refine g2s r_sadd ?_
    refine gN <| ge <| bn <| tn <| gR ?_
    refine gM ?_
    refine gM ?_
    refine g2s r_addI ?_
    refine gN <| ge <| bn ?_
    exact k2 []
 ·refine gx <| te <| te <| bh <| tn <| gS <| gR <| gM ?_
  refine gN <| ge <| tn <| gr ?_
  exact gz1
def ref04_Next.vc (b : Str) (a : Int) (R : Value → World → Prop) (w : World) : Prop :=
((0 : Int) ≤ a ∧ a < (b.length : Int)) ∧
(I64 ((b.getD a.toNat 0).toNat : Int)) ∧
∃ l : Int → Int → Int → World → Prop,
(((((b.getD a.toNat 0).toNat : Int) < 128) →
R (.tuple #[.int .i32 (IntKind.i32.wrap ((b.getD a.toNat 0).toNat : Int)),.int .i64 1]) w) ∧
((¬ (((b.getD a.toNat 0).toNat : Int) < 128)) →
(((192 ≤ ((b.getD a.toNat 0).toNat : Int)) ∧ (((b.getD a.toNat 0).toNat : Int) < 224)) →
(I64 (((b.getD a.toNat 0).toNat : Int) - 192)) ∧
l 2 (((b.getD a.toNat 0).toNat : Int) - 192) 128 w) ∧
(((¬ (192 ≤ ((b.getD a.toNat 0).toNat : Int))) ∨ (¬ (((b.getD a.toNat 0).toNat : Int) < 224))) →
(((224 ≤ ((b.getD a.toNat 0).toNat : Int)) ∧ (((b.getD a.toNat 0).toNat : Int) < 240)) →
(I64 (((b.getD a.toNat 0).toNat : Int) - 224)) ∧
l 3 (((b.getD a.toNat 0).toNat : Int) - 224) 2048 w) ∧
(((¬ (224 ≤ ((b.getD a.toNat 0).toNat : Int))) ∨ (¬ (((b.getD a.toNat 0).toNat : Int) < 240))) →
(((240 ≤ ((b.getD a.toNat 0).toNat : Int)) ∧ (((b.getD a.toNat 0).toNat : Int) < 248)) →
(I64 (((b.getD a.toNat 0).toNat : Int) - 240)) ∧
l 4 (((b.getD a.toNat 0).toNat : Int) - 240) 65536 w) ∧
(((¬ (240 ≤ ((b.getD a.toNat 0).toNat : Int))) ∨ (¬ (((b.getD a.toNat 0).toNat : Int) < 248))) →
l 0 0 0 w))))) ∧
(∀ (g : Int) (m : Int) (k : Int) (n : World),l g m k n →
∃ (o : Int → Int → World → Prop) (p : Int → Int → World → Nat),
o m 1 n ∧
(∀ (d : Int) (c : Int) (i : World),o d c i →
((c < g) →
(I64 (a + c)) ∧
(((¬ ((b.length : Int) ≤ (a + c)))) → I64 (a + c)) ∧
(((¬ ((b.length : Int) ≤ (a + c)))) → (0 : Int) ≤ a + c ∧ a + c < (b.length : Int)) ∧
((((¬ ((b.length : Int) ≤ (a + c))) ∧ (¬ (((b.getD (a + c).toNat 0).toNat : Int) < 128)))) → I64 (a + c)) ∧
((((¬ ((b.length : Int) ≤ (a + c))) ∧ (¬ (((b.getD (a + c).toNat 0).toNat : Int) < 128)))) → (0 : Int) ≤ a + c ∧ a + c < (b.length : Int)) ∧
(((((b.length : Int) ≤ (a + c)) ∨ (((b.getD (a + c).toNat 0).toNat : Int) < 128)) ∨ (191 < ((b.getD (a + c).toNat 0).toNat : Int))) →
R (.tuple #[.int .i32 0,.int .i64 0]) i) ∧
((((¬ ((b.length : Int) ≤ (a + c))) ∧ (¬ (((b.getD (a + c).toNat 0).toNat : Int) < 128))) ∧ (¬ (191 < ((b.getD (a + c).toNat 0).toNat : Int)))) →
(I64 (64 * d)) ∧
(I64 (a + c)) ∧
((0 : Int) ≤ a + c ∧ a + c < (b.length : Int)) ∧
(I64 ((b.getD (a + c).toNat 0).toNat : Int)) ∧
(I64 ((64 * d) + ((b.getD (a + c).toNat 0).toNat : Int))) ∧
(I64 (((64 * d) + ((b.getD (a + c).toNat 0).toNat : Int)) - 128)) ∧
(I64 (c + 1)) ∧
o (((64 * d) + ((b.getD (a + c).toNat 0).toNat : Int)) - 128) (c + 1) i ∧ p (((64 * d) + ((b.getD (a + c).toNat 0).toNat : Int)) - 128) (c + 1) i < p d c i)) ∧
((¬ (c < g)) →
(((((g = 0) ∨ (d < k)) ∨ (1114111 < d)) ∨ ((55296 ≤ d) ∧ (d ≤ 57343))) →
R (.tuple #[.int .i32 0,.int .i64 0]) i) ∧
(((((¬ (g = 0)) ∧ (¬ (d < k))) ∧ (¬ (1114111 < d))) ∧ ((¬ (55296 ≤ d)) ∨ (¬ (d ≤ 57343)))) →
R (.tuple #[.int .i32 (IntKind.i32.wrap d),.int .i64 g]) i))))
theorem ref04_Next.ok (b : Str) (a : Int) {R : Value → World → Prop} {w : World} (q : ref04_Next.vc b a R w) : Calls Tryz.prog 45 #[.string (Bs b),.int .i64 a] w (Ret R) := by
 refine go _ Tryz.func45 Tryz.ntmps45 q ?_
 refine gS <| gR <| gN ?_
 refine gN <| ge <| tn <| gS <| gR ?_
 refine gM ?_
 refine gM ?_
 refine g2s (fun f j h => r_sindex f j tU9 h) ?_
 refine g1s (fun f h => r_convI f rfl tU3 h) ?_
 refine gN <| ge <| tn <| gS <| gR ?_
 refine gN ?_
 refine gN ?_
 refine gN <| ge <| tn <| gS <| gE fun J => ?_
 refine m3 (fun g m k => [(7,.int .i64 g),(8,.int .i64 m),(9,.int .i64 k)]) [(0,_),(1,_)] (fun _ _ _ => []) [] [] ?_ fun g m k n _ => ?_
 ·refine gb <| gS <| gR <| gM ?_
  refine g2 r_lss ?_
  refine gN <| ge <| tn ?_
  refine gi dT dF ?_ ?_
  ·refine gS <| gR <| gM ?_
   refine g1 (fun f => r_conv f rfl tU21) ?_
   refine gN ?_
   refine gN <| ge <| tn <| gr <| br <| tr <| tr ?_
   exact gz2
  ·refine gS <| gR <| gM ?_
   refine g2 r_geq ?_
   refine gM ?_
   refine G1 r_move ?_
   refine G2 r_lss ?_
   refine gpa ?_
   refine gN <| ge <| tn ?_
   refine gi (fun h => ⟨(dT (aT h).1),(dT (aT h).2)⟩) (fun h => ((aF h).imp (fun h => (dF h)) (fun h => (dF h)))) ?_ ?_
   ·refine gR <| gM ?_
    refine g2s r_subI ?_
    refine gN ?_
    refine gN ?_
    refine gN <| ge <| bn ?_
    exact j3 []
   ·refine gS <| gR <| gM ?_
    refine g2 r_geq ?_
    refine gM ?_
    refine G1 r_move ?_
    refine G2 r_lss ?_
    refine gpa ?_
    refine gN <| ge <| tn ?_
    refine gi (fun h => ⟨(dT (aT h).1),(dT (aT h).2)⟩) (fun h => ((aF h).imp (fun h => (dF h)) (fun h => (dF h)))) ?_ ?_
    ·refine gR <| gM ?_
     refine g2s r_subI ?_
     refine gN ?_
     refine gN ?_
     refine gN <| ge <| bn ?_
     exact j3 []
    ·refine gS <| gR <| gM ?_
     refine g2 r_geq ?_
     refine gM ?_
     refine G1 r_move ?_
     refine G2 r_lss ?_
     refine gpa ?_
     refine gN <| ge <| tn ?_
     refine gi (fun h => ⟨(dT (aT h).1),(dT (aT h).2)⟩) (fun h => ((aF h).imp (fun h => (dF h)) (fun h => (dF h)))) ?_ ?_
     ·refine gR <| gM ?_
      refine g2s r_subI ?_
      refine gN ?_
      refine gN ?_
      refine gN <| ge <| bn ?_
      exact j3 []
     ·exact gk <| bn <| j3 []
 ·refine tn <| gS <| gS <| gR <| gN <| ge <| tn <| gb <| gE fun _ => gE fun mu => ?_
  refine l2 mu (fun d c => [(8,.int .i64 d),(10,.int .i64 c)]) [(0,_),(1,_),(7,_),(9,_)] (fun _ _ => []) [] [] fun d c i _ => gS <| gS <| gR ?_
  refine gM ?_
  refine gM ?_
  refine g2 r_lss <| ge <| tn ?_
  refine gi dT dF ?_ ?_
  ·refine gk <| tn <| gS <| gb <| gS <| gS <| gR <| gM ?_
   refine gM ?_
   refine g2s r_addI ?_
   refine gM ?_
   refine g1 (fun f => r_slen f tU9) ?_
   refine g2 r_geq ?_
   refine gM ?_
   refine G1 r_move ?_
   refine G1 r_move ?_
   refine G1 r_move ?_
   refine G2s r_addI (fun hg => (dF (g_f hg))) ?_
   refine G2s (fun f j h => r_sindex f j tU9 h) (fun hg => (dF (g_f hg))) ?_
   refine G2 r_lss ?_
   refine gpo ?_
   refine gM ?_
   refine G1 r_move ?_
   refine G1 r_move ?_
   refine G1 r_move ?_
   refine G2s r_addI (fun hg => ⟨(dF (oF (g_f hg)).1),(dF (oF (g_f hg)).2)⟩) ?_
   refine G2s (fun f j h => r_sindex f j tU9 h) (fun hg => ⟨(dF (oF (g_f hg)).1),(dF (oF (g_f hg)).2)⟩) ?_
   refine G2 r_gtr ?_
   refine gpo <| ge <| tn ?_
   refine gi (fun h => ((oT h).imp (fun h => ((oT h).imp (fun h => (dT h)) (fun h => (dT h)))) (fun h => (dT h)))) (fun h => ⟨⟨(dF (oF (oF h).1).1),(dF (oF (oF h).1).2)⟩,(dF (oF h).2)⟩) ?_ ?_
   ·refine gS <| gR <| gN ?_
    refine gN <| ge <| tn <| gr <| tr <| br <| tr <| tr <| br <| tr ?_
    exact gz2
   ·refine gk <| tn <| gR <| gM ?_
    refine g2s r_mulI ?_
    refine gM ?_
    refine gM ?_
    refine gM ?_
    refine g2s r_addI ?_
    refine g2s (fun f j h => r_sindex f j tU9 h) ?_
    refine g1s (fun f h => r_convI f rfl tU3 h) ?_
    refine g2s r_addI ?_
    refine g2s r_subI ?_
    refine gN <| ge <| bn <| tn <| gR ?_
    refine gM ?_
    refine g2s r_addI ?_
    refine gN <| ge ?_
    exact k2 []
  ·refine gx <| te <| te <| bh <| tn <| gS <| gS <| gR <| gM ?_
   refine g2 r_eql ?_
   refine gM ?_
   refine G1 r_move ?_
   refine G1 r_move ?_
   refine G2 r_lss ?_
   refine gpo ?_
   refine gM ?_
   refine G1 r_move ?_
   refine G2 r_gtr ?_
   refine gpo ?_
   refine gM ?_
   refine G1 r_move ?_
   refine G2 r_geq ?_
   refine G1 r_move ?_
   refine G1 r_move ?_
   refine G2 r_leq ?_
   refine Gpa ?_
   refine gpo <| ge <| tn ?_
   refine gi (fun h => ((oT h).imp (fun h => ((oT h).imp (fun h => ((oT h).imp (fun h => (dT h)) (fun h => (dT h)))) (fun h => (dT h)))) (fun h => ⟨(dT (aT h).1),(dT (aT h).2)⟩))) (fun h => ⟨⟨⟨(dF (oF (oF (oF h).1).1).1),(dF (oF (oF (oF h).1).1).2)⟩,(dF (oF (oF h).1).2)⟩,((aF (oF h).2).imp (fun h => (dF h)) (fun h => (dF h)))⟩) ?_ ?_
   ·refine gS <| gR <| gN ?_
    refine gN <| ge <| tn <| gr <| tr ?_
    exact gz2
   ·refine gk <| tn <| gS <| gR <| gM ?_
    refine g1 (fun f => r_conv f rfl tU21) ?_
    refine gM ?_
    refine gN ?_
    refine gN <| ge <| tn <| gr ?_
    exact gz2
def ref04_Blank.vc (a : Int) (R : Value → World → Prop) (w : World) : Prop :=
R (.bool ((((decide (a = 9)) || (decide (a = 10))) || (decide (a = 12))) || (decide (a = 32)))) w
theorem ref04_Blank.ok (a : Int) {R : Value → World → Prop} {w : World} (b : ref04_Blank.vc a R w) : Calls Tryz.prog 79 #[.int .u8 a] w (Ret R) := by
 refine go _ Tryz.func79 Tryz.ntmps79 b ?_
 refine gS <| gR <| gN <| ge <| tn <| gS <| gR ?_
 refine gM ?_
 refine g2 r_eql ?_
 refine gM ?_
 refine G1 r_move ?_
 refine G2 r_eql ?_
 refine gpo ?_
 refine gM ?_
 refine G1 r_move ?_
 refine G2 r_eql ?_
 refine gpo ?_
 refine gM ?_
 refine G1 r_move ?_
 refine G2 r_eql ?_
 refine gpo ?_
 refine gN <| ge <| tn <| gr ?_
 exact gz1
def ref04_Letter.vc (a : Int) (R : Value → World → Prop) (w : World) : Prop :=
R (.bool (((decide (97 ≤ a)) && (decide (a ≤ 122))) || ((decide (65 ≤ a)) && (decide (a ≤ 90))))) w
theorem ref04_Letter.ok (a : Int) {R : Value → World → Prop} {w : World} (b : ref04_Letter.vc a R w) : Calls Tryz.prog 81 #[.int .u8 a] w (Ret R) := by
 refine go _ Tryz.func81 Tryz.ntmps81 b ?_
 refine gS <| gR <| gN <| ge <| tn <| gS <| gR ?_
 refine gM ?_
 refine g2 r_geq ?_
 refine gM ?_
 refine G1 r_move ?_
 refine G2 r_leq ?_
 refine gpa ?_
 refine gM ?_
 refine G1 r_move ?_
 refine G2 r_geq ?_
 refine G1 r_move ?_
 refine G1 r_move ?_
 refine G2 r_leq ?_
 refine Gpa ?_
 refine gpo ?_
 refine gN <| ge <| tn <| gr ?_
 exact gz1
end Go.Proofs.YtenokfdkckhhiaaGreatDoor
